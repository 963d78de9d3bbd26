/- Lemmas on the program and its library: part ZW26. -/
import Derived.Test.YtoiejgkkcfkliaaGreatDoorZW25
set_option linter.unusedVariables false
set_option linter.unusedSimpArgs false
section
set_option maxHeartbeats 4000000
set_option maxRecDepth 100000
namespace Go.Proofs
open Go.Ax
theorem a2j {q:Rat} (h:y4 q=false):a0a (c5 q)=0:=by rw [b7w,h];rfl
theorem d6g {q:Rat} (h1:(Lib.decDigits q.num.natAbs).length≤600) (h2:(Lib.decDigits q.den).length≤600):y4 q=false:=by
  unfold y4 b6h
  rw [decide_eq_false (by omega),decide_eq_false (by omega)];rfl
theorem e1p {z:Int} (h:z.natAbs < 10 ^ 20):y4 (z:Rat)=false:=by
  refine d6g ?_ ?_
  · rw [Rat.num_intCast];exact Nat.le_trans (a0p h (by decide)) (by decide)
  · rw [Rat.den_intCast,b19];decide
theorem b2e:y4 0=false:=e1p (z:=0) (by decide)
theorem a0g {q:Rat} (h:y4 q=false):(c5 q).length≤900000:=by
  obtain ⟨h1,h2⟩:=d9x (a0z h)
  unfold c5 r6
  split <;> split <;> first|omega|(simp only [List.length_append,List.length_cons];omega)
theorem fst2 {a b:Rat} (ha:y4 a=false) (hb:y4 b=false):a1e [c5 a,c5 b]=0:=by
  simp only [a1e,List.map,a2j ha,a2j hb];rfl
theorem fst3 {a b c:Rat} (ha:y4 a=false) (hb:y4 b=false) (hc:y4 c=false):a1e [c5 a,c5 b,c5 c]=0:=by
  simp only [a1e,List.map,a2j ha,a2j hb,a2j hc];rfl
theorem fst4 {a b c d:Rat} (ha:y4 a=false) (hb:y4 b=false) (hc:y4 c=false) (hd:y4 d=false):a1e [c5 a,c5 b,c5 c,c5 d]=0:=by
  simp only [a1e,List.map,a2j ha,a2j hb,a2j hc,a2j hd];rfl
def okV (a b c:Rat):Prop:=y4 a=false∧y4 b=false∧y4 c=false
theorem s9 {a b c:Rat} (h:okV a b c):Q 2400 a∧Q 2400 b∧Q 2400 c:=⟨a0z h.1,a0z h.2.1,a0z h.2.2⟩
abbrev v3 (a b c:Rat):V3:=(c5 a,c5 b,c5 c)
theorem a3l {a b c:Rat} (h:okV a b c):u7 (v3 a b c):=⟨a0g h.1,a0g h.2.1,a0g h.2.2⟩
theorem a6j {a b c:Rat} (h:okV a b c):a19 (v3 a b c)=0:=fst3 h.1 h.2.1 h.2.2
theorem d6f {a b c:Rat} (h:okV a b c):a1e [c5 a,c5 b,c5 c]=0:=fst3 h.1 h.2.1 h.2.2
theorem memV2 {P:V3→Prop} {a b:V3} (ha:P a) (hb:P b):∀l∈[a,b],P l:=fun l h=>by
  simp only [List.mem_cons,List.not_mem_nil,or_false] at h
  rcases h with rfl|rfl
  · exact ha
  · exact hb
theorem memV3 {P:V3→Prop} {a b c:V3} (ha:P a) (hb:P b) (hc:P c):∀l∈[a,b,c],P l:=fun l h=>by
  simp only [List.mem_cons,List.not_mem_nil,or_false] at h
  rcases h with rfl|rfl|rfl
  · exact ha
  · exact hb
  · exact hc
theorem memV4 {P:V3→Prop} {a b c d:V3} (ha:P a) (hb:P b) (hc:P c) (hd:P d):∀l∈[a,b,c,d],P l:=fun l h=>by
  simp only [List.mem_cons,List.not_mem_nil,or_false] at h
  rcases h with rfl|rfl|rfl|rfl
  · exact ha
  · exact hb
  · exact hc
  · exact hd
abbrev a3r (v:V3):List i7:=[.v (.string (bs v.1)),.v (.string (bs v.2.1)),.v (.string (bs v.2.2))]
theorem c3g (a b:V3) (ha:u7 a) (hb:u7 b):Ax.Pure Tryz.prog G 194 [.one (.row 3 2 (fun i=> [a3r a,a3r b].getD i []))] (N (a3e [a,b])):=
  w8 (b05 [a,b] 2 rfl (memV2 ha hb) (show 2≤1000000 by decide)) ⟨a1t (d09 rfl rfl),trivial⟩ ⟨trivial,trivial⟩
theorem c3h (a b c:V3) (ha:u7 a) (hb:u7 b) (hc:u7 c):Ax.Pure Tryz.prog G 194 [.one (.row 3 3 (fun i=> [a3r a,a3r b,a3r c].getD i []))] (N (a3e [a,b,c])):=
  w8 (b05 [a,b,c] 3 rfl (memV3 ha hb hc) (show 3≤1000000 by decide)) ⟨a1t (b8u rfl rfl rfl),trivial⟩ ⟨trivial,trivial⟩
theorem b4t (a b c d:V3) (ha:u7 a) (hb:u7 b) (hc:u7 c) (hd:u7 d):Ax.Pure Tryz.prog G 194 [.one (.row 3 4 (fun i=> [a3r a,a3r b,a3r c,a3r d].getD i []))] (N (a3e [a,b,c,d])):=
  w8 (b05 [a,b,c,d] 4 rfl (memV4 ha hb hc hd) (show 4≤1000000 by decide)) ⟨a1t (b5k rfl rfl rfl rfl),trivial⟩ ⟨trivial,trivial⟩
theorem e1j {a b:V3} (ha:a19 a=0) (hb:a19 b=0):a3e [a,b]=0:=by simp only [a3e,List.map,ha,hb];rfl
theorem e1k {a b c:V3} (ha:a19 a=0) (hb:a19 b=0) (hc:a19 c=0):a3e [a,b,c]=0:=by simp only [a3e,List.map,ha,hb,hc];rfl
theorem e1l {a b c d:V3} (ha:a19 a=0) (hb:a19 b=0) (hc:a19 c=0) (hd:a19 d=0):a3e [a,b,c,d]=0:=by simp only [a3e,List.map,ha,hb,hc,hd];rfl
theorem b3p (f:FuncId) (a b:List UInt8) (ha:a.length≤900000) (hb:b.length≤900000) (he:a1e [a,b]≠0):Ax.Pure Tryz.prog G 201 [S (bs a),S (bs b),.one (.fn (.func f) [] [])] (.tup [S (bs []),N (a1e [a,b])]):=by
  have c_c:=a3a a b ha hb
  generalize a1e [a,b]=e at *
  refine r8 Tryz.func201 rfl Tryz.ntmps201 ?_
  intro w0 E0 hc
  repeat' (first|refine n7 hc Tryz.results201 ?_|(with_reducible first|exact trivial|refine j3 ?_ ?_|refine m8 (fun h=>?_)|refine c9 c_c ?_ ?_|fail)|((first|omega|exact absurd (by assumption) he);done))
theorem c3f (f:FuncId) (p q r:Rat) (hp:y4 p=false) (hq:y4 q=false) {k:Nat} (hk:k≤1000000) (hr:Q k r) (c_f:Ax.Pure Tryz.prog G f [a0h p,a0h q] (a0h r)):Ax.Pure Tryz.prog G 201 [S (bs (c5 p)),S (bs (c5 q)),.one (.fn (.func f) [] [])] (.tup [S (bs (txl (y4 r) r)),N (exl (y4 r))]):=by
  have c_c:=a3a _ _ (a0g hp) (a0g hq)
  rw [fst2 hp hq] at c_c
  have c_p:=a78 (k:=2400) (by decide) p (a0z hp)
  have c_q:=a78 (k:=2400) (by decide) q (a0z hq)
  have c_g:=c3k hk r hr
  refine r8 Tryz.func201 rfl Tryz.ntmps201 ?_
  intro w0 E0 hc
  repeat' (first|refine n7 hc Tryz.results201 ?_|(with_reducible first|exact trivial|refine j3 ?_ ?_|refine m8 (fun h=>?_)|refine c9 c_c ?_ ?_|refine c9 c_p ?_ ?_|refine c9 c_q ?_ ?_|refine c9 c_f ?_ ?_|refine c9 c_g ?_ ?_|fail)|((first|omega|exact absurd rfl (by assumption));done))
theorem e2h (a b:List UInt8) (ha:a.length≤900000) (hb:b.length≤900000) (he:a1e [a,b]≠0):Ax.Pure Tryz.prog G 98 [S (bs a),S (bs b)] (.tup [S (bs []),N (a1e [a,b])]):=by
  have c_b:=b3p 189 a b ha hb he
  refine r8 Tryz.func98 rfl Tryz.ntmps98 ?_
  intro w0 E0 hc
  repeat' (first|refine n7 hc Tryz.results98 ?_|(with_reducible first|exact trivial|refine j3 ?_ ?_|refine m8 (fun h=>?_)|refine c9 c_b ?_ ?_|fail)|(omega;done))
theorem s_Add (p q:Rat) (hp:y4 p=false) (hq:y4 q=false):Ax.Pure Tryz.prog G 98 [S (bs (c5 p)),S (bs (c5 q))] (.tup [S (bs (txl (y4 (p+q)) (p+q))),N (exl (y4 (p+q)))]):=by
  have qp:=a0z hp
  have qq:=a0z hq
  have c_b:=c3f 189 p q (p+q) hp hq (by decide) (f0 qp qq) (b6i p q (c8 qp rfl) (c8 qq rfl))
  refine r8 Tryz.func98 rfl Tryz.ntmps98 ?_
  intro w0 E0 hc
  repeat' (first|refine n7 hc Tryz.results98 ?_|(with_reducible first|exact trivial|refine j3 ?_ ?_|refine m8 (fun h=>?_)|refine c9 c_b ?_ ?_|fail)|(omega;done))
theorem e2l (a b:List UInt8) (ha:a.length≤900000) (hb:b.length≤900000) (he:a1e [a,b]≠0):Ax.Pure Tryz.prog G 99 [S (bs a),S (bs b)] (.tup [S (bs []),N (a1e [a,b])]):=by
  have c_b:=b3p 149 a b ha hb he
  refine r8 Tryz.func99 rfl Tryz.ntmps99 ?_
  intro w0 E0 hc
  repeat' (first|refine n7 hc Tryz.results99 ?_|(with_reducible first|exact trivial|refine j3 ?_ ?_|refine m8 (fun h=>?_)|refine c9 c_b ?_ ?_|fail)|(omega;done))
theorem s_Sub (p q:Rat) (hp:y4 p=false) (hq:y4 q=false):Ax.Pure Tryz.prog G 99 [S (bs (c5 p)),S (bs (c5 q))] (.tup [S (bs (txl (y4 (p - q)) (p - q))),N (exl (y4 (p - q)))]):=by
  have qp:=a0z hp
  have qq:=a0z hq
  have c_b:=c3f 149 p q (p - q) hp hq (by decide) (j9 qp qq) (b9f p q (c8 qp rfl) (c8 qq rfl))
  refine r8 Tryz.func99 rfl Tryz.ntmps99 ?_
  intro w0 E0 hc
  repeat' (first|refine n7 hc Tryz.results99 ?_|(with_reducible first|exact trivial|refine j3 ?_ ?_|refine m8 (fun h=>?_)|refine c9 c_b ?_ ?_|fail)|(omega;done))
theorem e2k (a b:List UInt8) (ha:a.length≤900000) (hb:b.length≤900000) (he:a1e [a,b]≠0):Ax.Pure Tryz.prog G 100 [S (bs a),S (bs b)] (.tup [S (bs []),N (a1e [a,b])]):=by
  have c_b:=b3p 185 a b ha hb he
  refine r8 Tryz.func100 rfl Tryz.ntmps100 ?_
  intro w0 E0 hc
  repeat' (first|refine n7 hc Tryz.results100 ?_|(with_reducible first|exact trivial|refine j3 ?_ ?_|refine m8 (fun h=>?_)|refine c9 c_b ?_ ?_|fail)|(omega;done))
theorem s_Mul (p q:Rat) (hp:y4 p=false) (hq:y4 q=false):Ax.Pure Tryz.prog G 100 [S (bs (c5 p)),S (bs (c5 q))] (.tup [S (bs (txl (y4 (p*q)) (p*q))),N (exl (y4 (p*q)))]):=by
  have qp:=a0z hp
  have qq:=a0z hq
  have c_b:=c3f 185 p q (p*q) hp hq (by decide) (c6 qp qq) (a6z p q (c8 qp rfl) (c8 qq rfl))
  refine r8 Tryz.func100 rfl Tryz.ntmps100 ?_
  intro w0 E0 hc
  repeat' (first|refine n7 hc Tryz.results100 ?_|(with_reducible first|exact trivial|refine j3 ?_ ?_|refine m8 (fun h=>?_)|refine c9 c_b ?_ ?_|fail)|(omega;done))
theorem b4z (q:Rat):((bs (c5 q)).toList == (⟨#[48]⟩:ByteArray).toList)=decide (q=0):=by
  have h:=a6y (c5 q) [48]
  rw [show (⟨#[48]⟩:ByteArray)=bs [48] from rfl,h]
  have e:c5 0= [48]:=by
    unfold c5 r6
    rw [if_pos (by rfl),if_neg (by decide)]
    exact a3z
  by_cases h0:q=0
  · rw [h0,e];rfl
  · rw [decide_eq_false h0]
    exact decide_eq_false fun hh=>h0 (b96 (hh.trans e.symm))
theorem e2j (a b:List UInt8) (ha:a.length≤900000) (hb:b.length≤900000) (he:a1e [a,b]≠0):Ax.Pure Tryz.prog G 101 [S (bs a),S (bs b)] (.tup [S (bs []),N (a1e [a,b])]):=by
  have c_c:=a3a a b ha hb
  have hf:∀x:Int,u5 [a1e [a,b],x]=a1e [a,b]:=fun x=>by simp only [u5,if_neg he]
  generalize a1e [a,b]=e at *
  have c_f:∀x:Int,Ax.Pure Tryz.prog G 143 [.one (.row 1 2 (fun i=> [[i7.v (.int .i64 e)],[i7.v (.int .i64 x)]].getD i []))] (N e):=fun x=>by
    have:=a4l e x
    rwa [hf] at this
  refine r8 Tryz.func101 rfl Tryz.ntmps101 ?_
  intro w0 E0 hc
  repeat' (first|refine n7 hc Tryz.results101 ?_|(with_reducible first|exact trivial|refine j3 ?_ ?_|refine m8 (fun h=>?_)|refine c9 c_c ?_ ?_|refine c9 (a91 _ _) ?_ ?_|refine c9 (c_f _) ?_ ?_|fail)|((first|omega|exact absurd (by assumption) he);done))
theorem s_Div (p q:Rat) (hp:y4 p=false) (hq:y4 q=false) (h0:q≠0):Ax.Pure Tryz.prog G 101 [S (bs (c5 p)),S (bs (c5 q))] (.tup [S (bs (txl (y4 (p / q)) (p / q))),N (exl (y4 (p / q)))]):=by
  have qp:=a0z hp
  have qq:=a0z hq
  have c_c:=a3a _ _ (a0g hp) (a0g hq)
  rw [fst2 hp hq] at c_c
  have c_w:Ax.Pure Tryz.prog G 153 [.one (.v (.bool ((bs (c5 q)).toList == (⟨#[48]⟩:ByteArray).toList))),N 6] (N 0):=by
    rw [b4z,decide_eq_false h0]
    exact a91 false 6
  have c_f:=a4l 0 0
  have c_b:=c3f 170 p q (p / q) hp hq (by decide) (a0b qp qq) (b3m p q h0 (c8 qp rfl) (c8 qq rfl))
  refine r8 Tryz.func101 rfl Tryz.ntmps101 ?_
  intro w0 E0 hc
  repeat' (first|refine n7 hc Tryz.results101 ?_|(with_reducible first|exact trivial|refine j3 ?_ ?_|refine m8 (fun h=>?_)|refine c9 c_c ?_ ?_|refine c9 c_w ?_ ?_|refine c9 c_f ?_ ?_|refine c9 c_b ?_ ?_|fail)|((first|omega|exact absurd rfl (by assumption));done))
theorem s_Div0 (p:Rat) (hp:y4 p=false):Ax.Pure Tryz.prog G 101 [S (bs (c5 p)),S (bs (c5 0))] (.tup [S (bs []),N 6]):=by
  have c_c:=a3a _ _ (a0g hp) (a0g b2e)
  rw [fst2 hp b2e] at c_c
  have c_w:Ax.Pure Tryz.prog G 153 [.one (.v (.bool ((bs (c5 0)).toList == (⟨#[48]⟩:ByteArray).toList))),N 6] (N 6):=by
    rw [b4z]
    exact a91 true 6
  have c_f:Ax.Pure Tryz.prog G 143 [.one (.row 1 2 (fun i=> [[i7.v (.int .i64 0)],[i7.v (.int .i64 6)]].getD i []))] (N 6):=a4l 0 6
  refine r8 Tryz.func101 rfl Tryz.ntmps101 ?_
  intro w0 E0 hc
  repeat' (first|refine n7 hc Tryz.results101 ?_|(with_reducible first|exact trivial|refine j3 ?_ ?_|refine m8 (fun h=>?_)|refine c9 c_c ?_ ?_|refine c9 c_w ?_ ?_|refine c9 c_f ?_ ?_|fail)|((first|omega|exact absurd (by assumption) (by decide));done))
theorem d7r (a b:List UInt8) (ha:a.length≤900000) (hb:b.length≤900000) (he:a1e [a,b]≠0):Ax.Pure Tryz.prog G 102 [S (bs a),S (bs b)] (.tup [N 0,N (a1e [a,b])]):=by
  have c_c:=a3a a b ha hb
  generalize a1e [a,b]=e at *
  refine r8 Tryz.func102 rfl Tryz.ntmps102 ?_
  intro w0 E0 hc
  repeat' (first|refine n7 hc Tryz.results102 ?_|(with_reducible first|exact trivial|refine j3 ?_ ?_|refine m8 (fun h=>?_)|refine c9 c_c ?_ ?_|fail)|((first|omega|exact absurd (by assumption) he);done))
theorem e2i (p q:Rat) (hp:y4 p=false) (hq:y4 q=false):Ax.Pure Tryz.prog G 102 [S (bs (c5 p)),S (bs (c5 q))] (.tup [N (b3s p q),N 0]):=by
  have qp:=a0z hp
  have qq:=a0z hq
  have c_c:=a3a _ _ (a0g hp) (a0g hq)
  rw [fst2 hp hq] at c_c
  have c_p:=a78 (k:=2400) (by decide) p qp
  have c_q:=a78 (k:=2400) (by decide) q qq
  have c_x:=d48 p q (c8 qp rfl) (c8 qq rfl)
  refine r8 Tryz.func102 rfl Tryz.ntmps102 ?_
  intro w0 E0 hc
  repeat' (first|refine n7 hc Tryz.results102 ?_|(with_reducible first|exact trivial|refine j3 ?_ ?_|refine m8 (fun h=>?_)|refine c9 c_c ?_ ?_|refine c9 c_p ?_ ?_|refine c9 c_q ?_ ?_|refine c9 c_x ?_ ?_|fail)|((first|omega|exact absurd rfl (by assumption));done))
theorem d99 (a:List UInt8) (ha:a.length≤900000) (he:a0a a≠0):Ax.Pure Tryz.prog G 103 [S (bs a)] (.tup [S (bs []),N (a0a a)]):=by
  have c_c:=b4k a ha
  generalize a0a a=e at *
  refine r8 Tryz.func103 rfl Tryz.ntmps103 ?_
  intro w0 E0 hc
  repeat' (first|refine n7 hc Tryz.results103 ?_|(with_reducible first|exact trivial|refine j3 ?_ ?_|refine m8 (fun h=>?_)|refine c9 c_c ?_ ?_|fail)|((first|omega|exact absurd (by assumption) he);done))
theorem d7s {k:Nat} {q:Rat} (h:Q k q):Q (k+1) ((q.floor:Int):Rat):=by
  refine d9w ?_
  have h1:=h.1
  have h2:q.floor.natAbs≤q.num.natAbs+1:=by
    rw [Rat.floor_def]
    have hd:=q.den_pos
    have:=Int.natAbs_ediv_le_natAbs q.num (q.den:Int)
    omega
  rw [Nat.pow_succ]
  have:0 < 2 ^ k:=Nat.two_pow_pos k
  omega
theorem s_Floor (p:Rat) (hp:y4 p=false):Ax.Pure Tryz.prog G 103 [S (bs (c5 p))] (.tup [S (bs (txl (y4 ((p.floor:Int):Rat)) ((p.floor:Int):Rat))),N (exl (y4 ((p.floor:Int):Rat)))]):=by
  have qp:=a0z hp
  have c_c:=b4k _ (a0g hp)
  rw [a2j hp] at c_c
  have c_p:=a78 (k:=2400) (by decide) p qp
  have c_f:=d79 p (c8 qp rfl)
  have c_w:=b4s p.floor
  have c_g:=c3k (by decide) _ (d7s qp)
  refine r8 Tryz.func103 rfl Tryz.ntmps103 ?_
  intro w0 E0 hc
  repeat' (first|refine n7 hc Tryz.results103 ?_|(with_reducible first|exact trivial|refine j3 ?_ ?_|refine m8 (fun h=>?_)|refine c9 c_c ?_ ?_|refine c9 c_p ?_ ?_|refine c9 c_f ?_ ?_|refine c9 c_w ?_ ?_|refine c9 c_g ?_ ?_|fail)|((first|omega|exact absurd rfl (by assumption));done))
theorem a0e {k:Nat} {a b c d e f:Rat} (ha:Q k a) (hb:Q k b) (hc:Q k c) (hd:Q k d) (he:Q k e) (hf:Q k f):Q (k+k+(k+k)+1+(k+k)+1) (c7 a b c d e f):=f0 (f0 (c6 ha hd) (c6 hb he)) (c6 hc hf)
theorem a77 {k:Nat} (hk:k≤100000000) (a b c d e f:Rat) (ha:Q k a) (hb:Q k b) (hc:Q k c) (hd:Q k d) (he:Q k e) (hf:Q k f):Ax.Pure Tryz.prog G 148 [vA a b c,vA d e f] (a0h (c7 a b c d e f)):=by
  have h:=fun {q:Rat} (x:Q k q)=>b8c x
  exact c1s a b c d e f ⟨Nat.le_trans (h ha) hk,Nat.le_trans (h hb) hk,Nat.le_trans (h hc) hk,Nat.le_trans (h hd) hk,Nat.le_trans (h he) hk,Nat.le_trans (h hf) hk⟩
theorem a7x (x:Rat):0≤x*x:=by
  rcases Rat.le_total (a:=0) (b:=x) with hx|hx
  · exact Rat.mul_nonneg hx hx
  · have h:0≤-x:=by grind
    have:=Rat.mul_nonneg h h
    grind
theorem y6 {a b c:Rat} (h:¬(a=0∧b=0∧c=0)):c7 a b c a b c≠0:=by
  intro e
  unfold c7 at e
  have ha:=a7x a
  have hb:=a7x b
  have hc:=a7x c
  have z:∀x:Rat,x*x=0→x=0:=fun x hx=>by rcases Rat.mul_eq_zero.1 hx with h|h <;> exact h
  exact h ⟨z a (by grind),z b (by grind),z c (by grind)⟩
theorem d9j (a1 a2 a3 b1 b2 b3:Rat) (ha:okV a1 a2 a3) (hb:okV b1 b2 b3) (h0:¬(a1=0∧a2=0∧a3=0)) (hs:a1*(c7 a1 a2 a3 b1 b2 b3 / c7 a1 a2 a3 a1 a2 a3)=b1∧a2*(c7 a1 a2 a3 b1 b2 b3 / c7 a1 a2 a3 a1 a2 a3)=b2∧a3*(c7 a1 a2 a3 b1 b2 b3 / c7 a1 a2 a3 a1 a2 a3)=b3):Ax.Pure Tryz.prog G 91 [tV (c5 a1) (c5 a2) (c5 a3),tV (c5 b1) (c5 b2) (c5 b3)] (.tup [S (bs (txl (y4 (c7 a1 a2 a3 b1 b2 b3 / c7 a1 a2 a3 a1 a2 a3)) (c7 a1 a2 a3 b1 b2 b3 / c7 a1 a2 a3 a1 a2 a3))),N (exl (y4 (c7 a1 a2 a3 b1 b2 b3 / c7 a1 a2 a3 a1 a2 a3)))]):=by
  have qa:=s9 ha
  have qb:=s9 hb
  obtain ⟨qa1,qa2,qa3⟩:=qa
  obtain ⟨qb1,qb2,qb3⟩:=qb
  have c_c:=c3g (v3 a1 a2 a3) (v3 b1 b2 b3) (a3l ha) (a3l hb)
  rw [e1j (a6j ha) (a6j hb)] at c_c
  have c_a:=a9x (k:=2400) (by decide) a1 a2 a3 (s9 ha)
  have c_b:=a9x (k:=2400) (by decide) b1 b2 b3 (s9 hb)
  have hz:=y6 h0
  have c_z:=a60 a1 a2 a3
  rw [decide_eq_false h0] at c_z
  have c_ab:=a77 (k:=2400) (by decide) a1 a2 a3 b1 b2 b3 qa1 qa2 qa3 qb1 qb2 qb3
  have c_aa:=a77 (k:=2400) (by decide) a1 a2 a3 a1 a2 a3 qa1 qa2 qa3 qa1 qa2 qa3
  have q1:=a0e qa1 qa2 qa3 qb1 qb2 qb3
  have q2:=a0e qa1 qa2 qa3 qa1 qa2 qa3
  have c_dv:=b3m _ _ hz (c8 q1 rfl) (c8 q2 rfl)
  have qt:=a0b q1 q2
  generalize c7 a1 a2 a3 b1 b2 b3 / c7 a1 a2 a3 a1 a2 a3=t at *
  have c_s:=a3x a1 a2 a3 t ⟨c8 qa1 rfl,c8 qa2 rfl,c8 qa3 rfl,c8 qt rfl⟩
  have c_m:=d8b (a1*t) (a2*t) (a3*t) b1 b2 b3 ⟨c8 (c6 qa1 qt) rfl,c8 (c6 qa2 qt) rfl,c8 (c6 qa3 qt) rfl,c8 qb1 rfl,c8 qb2 rfl,c8 qb3 rfl⟩
  have c_g:=c3k (by decide) t qt
  rw [decide_eq_true hs] at c_m
  refine r8 Tryz.func91 rfl Tryz.ntmps91 ?_
  intro w0 E0 hc
  repeat' (first|refine n7 hc Tryz.results91 ?_|(with_reducible first|exact trivial|refine j3 ?_ ?_|refine m8 (fun h=>?_)|refine c9 c_c ?_ ?_|refine c9 c_a ?_ ?_|refine c9 c_b ?_ ?_|refine c9 c_z ?_ ?_|refine c9 c_ab ?_ ?_|refine c9 c_aa ?_ ?_|refine c9 c_dv ?_ ?_|refine c9 c_s ?_ ?_|refine c9 c_m ?_ ?_|refine c9 c_g ?_ ?_|fail)|((first|omega|exact absurd rfl (by assumption)|(refine nf1 ?_;assumption)|(refine nf2 ?_;assumption));done))
end Go.Proofs
end
