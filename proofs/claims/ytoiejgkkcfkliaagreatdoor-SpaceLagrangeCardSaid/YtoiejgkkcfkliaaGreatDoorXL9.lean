/- Lemmas on the program and its library: part XL9. -/
import Derived.Test.YtoiejgkkcfkliaaGreatDoorXVL
set_option linter.unusedVariables false
set_option linter.unusedSimpArgs false
section
set_option maxHeartbeats 4000000
set_option maxRecDepth 100000
namespace Go.Proofs
open Go.Ax
def fewQ (q:Rat) (n:Nat):Bool:=decide ((Lib.decDigits q.num.natAbs).length≤n∧(Lib.decDigits q.den).length≤n)
theorem r_Few (q:Rat) (hq:bigQ q=false) (n:Nat) (hn:n≤1000):Ax.Pure Tryz.prog G 85 [S (bs (ratL q)),N n] (Bo (fewQ q n)):=by
  have hQ:=bigQ_Q hq
  obtain ⟨d1,d2⟩:=Q_dl hQ
  have h3:=intL_len q.num
  have c_c:=r_Check (ratL q) (ok_len hq)
  rw [ok_chk hq] at c_c
  have c_n:=r_Num q hQ (by decide)
  have c_d:=r_Den q hQ (by decide)
  have c_a:=r_AbsI q.num (by omega)
  have s0:=bs_size (ratL q)
  have s1:=bs_size (Lib.decDigits q.num.natAbs)
  have s2:=bs_size (Lib.decDigits q.den)
  have w1:IntKind.i64.wrap (IntKind.i64.wrap (2*(n:Int))+2)=2*(n:Int)+2:=by rw [w64 (x:=2*(n:Int)) (by omega) (by omega),w64 (by omega) (by omega)]
  have hlen:(ratL q).length≤(Lib.decDigits q.num.natAbs).length+(Lib.decDigits q.den).length+2:=by
    unfold ratL
    split
    · omega
    · rw [List.length_append,List.length_cons];omega
  refine zen Tryz.func85 rfl Tryz.ntmps85 ?_
  intro w0 E0 hc
  repeat' (first|refine zR1 hc Tryz.results85 ?_|(with_reducible first|exact trivial|refine zan ?_ ?_|refine zim (fun h=>?_)|refine zoc c_c ?_ ?_|refine zoc c_n ?_ ?_|refine zoc c_d ?_ ?_|refine zoc c_a ?_ ?_|fail)|(omega;done))
  · unfold fewQ
    refine sub_eq (congrArg Bo (decide_eq_decide.2 ⟨fun h=>⟨by omega,by omega⟩,fun h=>by have:=h.2;omega⟩))
  · rw [show fewQ q n=false from decide_eq_false (fun h=>by have:=h.1;omega)];exact Sub.refl _
  · rw [show fewQ q n=false from decide_eq_false (fun h=>by have:=h.1;have:=h.2;omega)];exact Sub.refl _
theorem r_Few_bad (l:List UInt8) (hl:l.length≤900000) (he:checkL l≠0) (n:Nat):Ax.Pure Tryz.prog G 85 [S (bs l),N n] (Bo false):=by
  have c_c:=r_Check l hl
  generalize checkL l=e at *
  refine zen Tryz.func85 rfl Tryz.ntmps85 ?_
  intro w0 E0 hc
  repeat' (first|refine zR1 hc Tryz.results85 ?_|(with_reducible first|exact trivial|refine zan ?_ ?_|refine zim (fun h=>?_)|refine zoc c_c ?_ ?_|fail)|(omega;done))
end Go.Proofs
end
section
set_option maxHeartbeats 4000000
set_option maxRecDepth 100000
namespace Go.Proofs
open Go.Ax
theorem Q_small {q:Rat} (h:Q (3*600) q):bigQ q=false:=by
  have h1:∀n:Nat,n < 2 ^ (3*600)→(Lib.decDigits n).length≤600:=fun n hn=>dec_len_le (Nat.lt_of_lt_of_le hn (eight_ten 600)) (by decide)
  unfold bigQ bigZ
  rw [Bool.or_eq_false_iff,decide_eq_false_iff_not,decide_eq_false_iff_not]
  exact ⟨Nat.not_lt.2 (h1 _ h.1),Nat.not_lt.2 (h1 _ h.2)⟩
theorem r_Few_long (l:List UInt8) (n:Nat) (hn:n≤1000) (hl:2*n+2 < l.length):Ax.Pure Tryz.prog G 85 [S (bs l),N n] (Bo false):=by
  have s0:=bs_size l
  have w1:IntKind.i64.wrap (IntKind.i64.wrap (2*(n:Int))+2)=2*(n:Int)+2:=by rw [w64 (x:=2*(n:Int)) (by omega) (by omega),w64 (by omega) (by omega)]
  refine zen Tryz.func85 rfl Tryz.ntmps85 ?_
  intro w0 E0 hc
  repeat' (first|refine zR1 hc Tryz.results85 ?_|(with_reducible first|exact trivial|refine zan ?_ ?_|refine zim (fun h=>?_)|fail)|(omega;done))
theorem r_FewAny (l:List UInt8) (n:Nat) (hn:n≤1000):∃b:Bool,Ax.Pure Tryz.prog G 85 [S (bs l),N n] (Bo b)∧(b=true→∃q:Rat,l=ratL q∧bigQ q=false∧Q (4*n) q):=by
  by_cases hl:2*n+2 < l.length
  · exact ⟨false,r_Few_long l n hn hl,fun h=>by cases h⟩
  · by_cases hc:checkL l=0
    · obtain ⟨q,rfl,hq⟩:=checkL_zero hc
      exact ⟨_,r_Few q hq n hn,fun h=>⟨q,rfl,hq,Q_dec (of_decide_eq_true h).1 (of_decide_eq_true h).2⟩⟩
    · exact ⟨false,r_Few_bad l (by omega) hc n,fun h=>by cases h⟩
theorem r_FewVAny (v:V3) (n:Nat) (hn:n≤1000):∃b:Bool,Ax.Pure Tryz.prog G 55 [txV v,N n] (Bo b)∧(b=true→∃p q r:Rat,v=v3 p q r∧okV p q r∧Q (4*n) p∧Q (4*n) q∧Q (4*n) r):=by
  obtain ⟨x,y,z⟩:=v
  obtain ⟨b1,c_1,g1⟩:=r_FewAny x n hn
  obtain ⟨b2,c_2,g2⟩:=r_FewAny y n hn
  obtain ⟨b3,c_3,g3⟩:=r_FewAny z n hn
  refine ⟨b1 && (b2 && b3),?_,fun h=>?_⟩
  · clear g1 g2 g3
    cases b1 <;> cases b2
    all_goals
      refine zen Tryz.func55 rfl Tryz.ntmps55 ?_
      intro w0 E0 hc
      repeat' (first|refine zR1 hc Tryz.results55 ?_|(with_reducible first|exact trivial|refine zan ?_ ?_|refine zim (fun h=>?_)|refine zoc c_1 ?_ ?_|refine zoc c_2 ?_ ?_|refine zoc c_3 ?_ ?_|fail)|(omega;done))
      all_goals exact Sub.refl _
  · rw [Bool.and_eq_true,Bool.and_eq_true] at h
    obtain ⟨p,rfl,op,qp⟩:=g1 h.1
    obtain ⟨q,rfl,oq,qq⟩:=g2 h.2.1
    obtain ⟨r,rfl,or',qr⟩:=g3 h.2.2
    exact ⟨p,q,r,rfl,⟨op,oq,or'⟩,qp,qq,qr⟩
end Go.Proofs
end
section
set_option maxHeartbeats 8000000
set_option maxRecDepth 100000
namespace Go.Proofs
open Go.Ax
theorem fineV {f:FuncId} {l:List AV} {A B C:Rat} (h:Ax.Pure Tryz.prog G f l (.tup [tV (txl (bigV A B C) A) (txl (bigV A B C) B) (txl (bigV A B C) C),N (exl (bigV A B C))])) (q:okV A B C):Ax.Pure Tryz.prog G f l (.tup [tV (ratL A) (ratL B) (ratL C),N 0]):=by
  rw [show bigV A B C=false by unfold bigV;rw [q.1,q.2.1,q.2.2];rfl] at h;exact h
theorem fineN {f:FuncId} {l:List AV} {q:Rat} (h:Ax.Pure Tryz.prog G f l (.tup [S (bs (txl (bigQ q) q)),N (exl (bigQ q))])) (k:bigQ q=false):Ax.Pure Tryz.prog G f l (.tup [S (bs (ratL q)),N 0]):=by
  rw [k] at h;exact h
theorem okV_of {A B C:Rat} (a:Q 1800 A) (b:Q 1800 B) (c:Q 1800 C):okV A B C:=⟨Q_small a,Q_small b,Q_small c⟩
theorem chk_3 {a b c:Rat} (h:okV a b c):Ax.Pure Tryz.prog G 63 [.one (.row 1 3 (fun i=> [[Leaf.v (.string (bs (ratL a)))],[Leaf.v (.string (bs (ratL b)))],[Leaf.v (.string (bs (ratL c)))]].getD i []))] (N 0):=by
  have k:=r_CheckRow3 (ratL a) (ratL b) (ratL c) (ok_len h.1) (ok_len h.2.1) (ok_len h.2.2)
  rw [show fstE [ratL a,ratL b,ratL c]=0 from fst_ok h] at k
  exact k
theorem chk_1 {a:Rat} (h:bigQ a=false):Ax.Pure Tryz.prog G 21 [S (bs (ratL a))] (N 0):=by
  have k:=r_Check (ratL a) (ok_len h)
  rwa [ok_chk h] at k
theorem lag_id (a b c d e f:Rat):dot3 (b*f - c*e) (c*d - a*f) (a*e - b*d) (b*f - c*e) (c*d - a*f) (a*e - b*d)+dot3 a b c d e f*dot3 a b c d e f=dot3 a b c a b c*dot3 d e f d e f:=by unfold dot3;grind
theorem lag_a (a b c d e f:Rat):dot3 (b*f - c*e) (c*d - a*f) (a*e - b*d) a b c=0:=by unfold dot3;grind
theorem lag_b (a b c d e f:Rat):dot3 (b*f - c*e) (c*d - a*f) (a*e - b*d) d e f=0:=by unfold dot3;grind
theorem lag_n (a b c d:Rat):a*b - c*d+(d*c - b*a)=0:=by grind
theorem sq_zero {a:Rat} (h:a*a=0):a=0:=by grind
theorem dot_zero {a b c:Rat} (h:dot3 a b c a b c=0):a=0∧b=0∧c=0:=by
  have h1:=sq_nn a
  have h2:=sq_nn b
  have h3:=sq_nn c
  unfold dot3 at h
  exact ⟨sq_zero (by grind),sq_zero (by grind),sq_zero (by grind)⟩
theorem along_iff {a b c d e f:Rat} (h0:dot3 a b c a b c≠0):(a*(dot3 a b c d e f / dot3 a b c a b c)=d∧b*(dot3 a b c d e f / dot3 a b c a b c)=e∧c*(dot3 a b c d e f / dot3 a b c a b c)=f)↔dot3 (b*f - c*e) (c*d - a*f) (a*e - b*d) (b*f - c*e) (c*d - a*f) (a*e - b*d)=0:=by
  constructor
  · rintro ⟨h1,h2,h3⟩
    generalize dot3 a b c d e f / dot3 a b c a b c=t at *
    subst h1 h2 h3
    unfold dot3;grind
  · intro h
    obtain ⟨h1,h2,h3⟩:=dot_zero h
    have e1:a*dot3 a b c d e f=d*dot3 a b c a b c:=by unfold dot3;grind
    have e2:b*dot3 a b c d e f=e*dot3 a b c a b c:=by unfold dot3;grind
    have e3:c*dot3 a b c d e f=f*dot3 a b c a b c:=by unfold dot3;grind
    generalize dot3 a b c a b c=n at *
    generalize dot3 a b c d e f=m at *
    refine ⟨?_,?_,?_⟩<;> grind
theorem along_t (a b c t:Rat) (h:dot3 a b c a b c≠0):dot3 a b c (a*t) (b*t) (c*t) / dot3 a b c a b c=t:=by
  have e:dot3 a b c (a*t) (b*t) (c*t)=t*dot3 a b c a b c:=by unfold dot3;grind
  rw [e]
  generalize dot3 a b c a b c=n at *
  grind
theorem z48:((bs [48]).toList == (⟨#[48]⟩:ByteArray).toList)=true:=beq_bs [48]
theorem lag_main (a1 a2 a3 b1 b2 b3 t:Rat) (oa:okV a1 a2 a3) (ob:okV b1 b2 b3) (ot:bigQ t=false) (qa1:Q 32 a1) (qa2:Q 32 a2) (qa3:Q 32 a3) (qb1:Q 32 b1) (qb2:Q 32 b2) (qb3:Q 32 b3) (qt:Q 32 t)
    (c_fa:Ax.Pure Tryz.prog G 55 [txV (v3 a1 a2 a3),N 8] (Bo true)) (c_fb:Ax.Pure Tryz.prog G 55 [txV (v3 b1 b2 b3),N 8] (Bo true)) (c_ft:Ax.Pure Tryz.prog G 85 [S (bs (ratL t)),N 8] (Bo true)) :
    Ax.Pure Tryz.prog G 12 [txV (v3 a1 a2 a3),txV (v3 b1 b2 b3),S (bs (ratL t))] (Bo true):=by
  have c_aw:=c_awake
  have q1:=Q_sub (Q_mul qa2 qb3) (Q_mul qa3 qb2)
  have q2:=Q_sub (Q_mul qa3 qb1) (Q_mul qa1 qb3)
  have q3:=Q_sub (Q_mul qa1 qb2) (Q_mul qa2 qb1)
  have p1:=Q_sub (Q_mul qb2 qa3) (Q_mul qb3 qa2)
  have p2:=Q_sub (Q_mul qb3 qa1) (Q_mul qb1 qa3)
  have p3:=Q_sub (Q_mul qb1 qa2) (Q_mul qb2 qa1)
  have ox:=okV_of (Q_of q1 rfl) (Q_of q2 rfl) (Q_of q3 rfl)
  have oy:=okV_of (Q_of p1 rfl) (Q_of p2 rfl) (Q_of p3 rfl)
  have qd:=Q_dot qa1 qa2 qa3 qb1 qb2 qb3
  have qu:=Q_dot qa1 qa2 qa3 qa1 qa2 qa3
  have qv:=Q_dot qb1 qb2 qb3 qb1 qb2 qb3
  have od:=okV_of (Q_of qd rfl) (Q_of qu rfl) (Q_of qv rfl)
  have qs:=Q_dot q1 q2 q3 q1 q2 q3
  have os:=Q_small (Q_of qs rfl)
  have c_x:=fineV (s_Cross a1 a2 a3 b1 b2 b3 oa ob) ox
  have c_y:=fineV (s_Cross b1 b2 b3 a1 a2 a3 ob oa) oy
  have c_d:=fineN (s_Dot a1 a2 a3 b1 b2 b3 oa ob) od.1
  have c_u:=fineN (s_Square a1 a2 a3 oa) od.2.1
  have c_v:=fineN (s_Square b1 b2 b3 ob) od.2.2
  have p_kx:=chk_V ox
  have p_ky:=chk_V oy
  have p_kd:=chk_3 od
  have c_s:=fineN (s_Square _ _ _ ox) os
  have p_ks:=chk_1 os
  have c_p:=s_Dot _ _ _ a1 a2 a3 ox oa
  rw [lag_a] at c_p
  have c_p:=fineN c_p (Q_small (Q_of Q_zero rfl))
  have c_q:=s_Dot _ _ _ b1 b2 b3 ox ob
  rw [lag_b] at c_q
  have c_q:=fineN c_q (Q_small (Q_of Q_zero rfl))
  have c_xy:=r_AddVec (k:=1000) (by decide) _ _ _ _ _ _ ⟨Q_of q1 rfl,Q_of q2 rfl,Q_of q3 rfl⟩ ⟨Q_of p1 rfl,Q_of p2 rfl,Q_of p3 rfl⟩
  rw [lag_n,lag_n,lag_n] at c_xy
  have c_or:=r_Origin
  have c_dd:=r_MulQ _ _ (Q_of (K:=10000) qd rfl) (Q_of qd rfl) (by decide)
  have c_uv:=r_MulQ _ _ (Q_of (K:=10000) qu rfl) (Q_of qv rfl) (by decide)
  have c_sd:=r_AddQ _ _ (Q_of (K:=10000) qs rfl) (Q_of (Q_mul qd qd) rfl) (by decide)
  rw [lag_id] at c_sd
  by_cases h0:dot3 a1 a2 a3 a1 a2 a3=0
  · rw [h0] at c_u c_uv c_sd p_kd
    rw [ratL_zero] at *
    generalize dot3 (a2*b3 - a3*b2) (a3*b1 - a1*b3) (a1*b2 - a2*b1) (a2*b3 - a3*b2) (a3*b1 - a1*b3) (a1*b2 - a2*b1)=s at *
    generalize dot3 a1 a2 a3 b1 b2 b3=d at *
    refine zen Tryz.func12 rfl Tryz.ntmps12 ?_
    intro w0 E0 hc
    repeat' (first|(with_reducible first|refine Wp_seq ?_|refine zr0 hc ?_|refine zm0 hc ?_|refine zwk ?_|refine Wp_block ?_|refine zgo ?_|refine zbn ?_|refine zge Tryz.results12 ?_|refine Sub.refl _|refine allP_nil|refine zoa1 (out':=?_) ?_|refine zca1 (y:=?_) ?_|refine zea1 (eo':=?_) ?_)|(with_reducible refine allP_cons ?_ ?_;focus (first|decide|omega))|(with_reducible first|refine zg2 ?_ ?_|refine zoc c_aw ?_ ?_|refine zoc c_fa ?_ ?_|refine zoc c_fb ?_ ?_|refine zoc c_ft ?_ ?_|refine zoc c_x ?_ ?_|refine zoc c_y ?_ ?_|refine zoc c_d ?_ ?_|refine zoc c_u ?_ ?_|refine zoc c_v ?_ ?_|refine zoc p_kx ?_ ?_|refine zoc p_ky ?_ ?_|refine zoc p_kd ?_ ?_|refine zoc c_s ?_ ?_|refine zoc c_p ?_ ?_|refine zoc c_q ?_ ?_|refine zoc p_ks ?_ ?_|refine zoc c_xy ?_ ?_|refine zoc c_or ?_ ?_|refine zoc c_dd ?_ ?_|refine zoc c_uv ?_ ?_|refine zoc c_sd ?_ ?_|refine zbo ?_|refine zg3 ?_ (fun h=>?_) (fun h=>?_)|refine zg4 (fun h=>?_) (fun h=>?_)|fail)|((first|omega|(refine absurd ?_ h;decide)|(exfalso;simp [beq_bs,z48] at h;done)|fail);done))
  · have h0':¬(a1=0∧a2=0∧a3=0):=fun h=>h0 (by obtain ⟨rfl,rfl,rfl⟩:=h;unfold dot3;grind)
    have hu:((bs (ratL (dot3 a1 a2 a3 a1 a2 a3))).toList == (⟨#[48]⟩:ByteArray).toList)=false:=by rw [zero_text,rat_beq];exact decide_eq_false h0
    have oat:okV (a1*t) (a2*t) (a3*t):=okV_of (Q_of (Q_mul qa1 qt) rfl) (Q_of (Q_mul qa2 qt) rfl) (Q_of (Q_mul qa3 qt) rfl)
    have c_sc:=fineV (s_Scale t a1 a2 a3 ot oa) oat
    have c_al:=s_Along a1 a2 a3 (a1*t) (a2*t) (a3*t) oa oat h0' (by rw [along_t _ _ _ _ h0];exact ⟨rfl,rfl,rfl⟩)
    rw [along_t _ _ _ _ h0] at c_al
    have c_al:=fineN c_al ot
    by_cases hs:a1*(dot3 a1 a2 a3 b1 b2 b3 / dot3 a1 a2 a3 a1 a2 a3)=b1∧a2*(dot3 a1 a2 a3 b1 b2 b3 / dot3 a1 a2 a3 a1 a2 a3)=b2∧a3*(dot3 a1 a2 a3 b1 b2 b3 / dot3 a1 a2 a3 a1 a2 a3)=b3
    · have c_ab:=fineN (s_Along a1 a2 a3 b1 b2 b3 oa ob h0' hs) (Q_small (Q_of (Q_div qd qu) rfl))
      have hS:=z48
      rw [(along_iff h0).1 hs] at c_s p_ks c_sd
      rw [ratL_zero] at *
      generalize dot3 a1 a2 a3 a1 a2 a3=u at *
      generalize dot3 a1 a2 a3 b1 b2 b3=d at *
      refine zen Tryz.func12 rfl Tryz.ntmps12 ?_
      intro w0 E0 hc
      repeat' (first|(with_reducible first|refine Wp_seq ?_|refine zr0 hc ?_|refine zm0 hc ?_|refine zwk ?_|refine Wp_block ?_|refine zgo ?_|refine zbn ?_|refine zge Tryz.results12 ?_|refine Sub.refl _|refine allP_nil|refine zoa1 (out':=?_) ?_|refine zca1 (y:=?_) ?_|refine zea1 (eo':=?_) ?_)|(with_reducible refine allP_cons ?_ ?_;focus (first|decide|omega))|(with_reducible first|refine zg2 ?_ ?_|refine zoc c_aw ?_ ?_|refine zoc c_fa ?_ ?_|refine zoc c_fb ?_ ?_|refine zoc c_ft ?_ ?_|refine zoc c_x ?_ ?_|refine zoc c_y ?_ ?_|refine zoc c_d ?_ ?_|refine zoc c_u ?_ ?_|refine zoc c_v ?_ ?_|refine zoc p_kx ?_ ?_|refine zoc p_ky ?_ ?_|refine zoc p_kd ?_ ?_|refine zoc c_s ?_ ?_|refine zoc c_p ?_ ?_|refine zoc c_q ?_ ?_|refine zoc p_ks ?_ ?_|refine zoc c_xy ?_ ?_|refine zoc c_or ?_ ?_|refine zoc c_dd ?_ ?_|refine zoc c_uv ?_ ?_|refine zoc c_sd ?_ ?_|refine zoc c_sc ?_ ?_|refine zoc c_al ?_ ?_|refine zoc c_ab ?_ ?_|refine zbo ?_|refine zg3 ?_ (fun h=>?_) (fun h=>?_)|refine zg4 (fun h=>?_) (fun h=>?_)|fail)|((first|omega|(refine absurd ?_ h;decide)|(exfalso;simp [beq_bs,z48,hu] at h;done)|fail);done))
      all_goals exact sub_eq (congrArg Bo (by simp [beq_bs,z48,hu,hS]))
    · have c_ab:=s_Along_no a1 a2 a3 b1 b2 b3 oa ob h0' hs
      have hS:((bs (ratL (dot3 (a2*b3 - a3*b2) (a3*b1 - a1*b3) (a1*b2 - a2*b1) (a2*b3 - a3*b2) (a3*b1 - a1*b3) (a1*b2 - a2*b1)))).toList == (⟨#[48]⟩:ByteArray).toList)=false:=by rw [zero_text,rat_beq];exact decide_eq_false fun h=>hs ((along_iff h0).2 h)
      have hn:¬ratL (dot3 (a2*b3 - a3*b2) (a3*b1 - a1*b3) (a1*b2 - a2*b1) (a2*b3 - a3*b2) (a3*b1 - a1*b3) (a1*b2 - a2*b1))= [48]:=fun h=>hs ((along_iff h0).2 (ratL_inj (h.trans ratL_zero.symm)))
      rw [ratL_zero] at *
      generalize dot3 (a2*b3 - a3*b2) (a3*b1 - a1*b3) (a1*b2 - a2*b1) (a2*b3 - a3*b2) (a3*b1 - a1*b3) (a1*b2 - a2*b1)=s at *
      generalize dot3 a1 a2 a3 a1 a2 a3=u at *
      generalize dot3 a1 a2 a3 b1 b2 b3=d at *
      refine zen Tryz.func12 rfl Tryz.ntmps12 ?_
      intro w0 E0 hc
      repeat' (first|(with_reducible first|refine Wp_seq ?_|refine zr0 hc ?_|refine zm0 hc ?_|refine zwk ?_|refine Wp_block ?_|refine zgo ?_|refine zbn ?_|refine zge Tryz.results12 ?_|refine Sub.refl _|refine allP_nil|refine zoa1 (out':=?_) ?_|refine zca1 (y:=?_) ?_|refine zea1 (eo':=?_) ?_)|(with_reducible refine allP_cons ?_ ?_;focus (first|decide|omega))|(with_reducible first|refine zg2 ?_ ?_|refine zoc c_aw ?_ ?_|refine zoc c_fa ?_ ?_|refine zoc c_fb ?_ ?_|refine zoc c_ft ?_ ?_|refine zoc c_x ?_ ?_|refine zoc c_y ?_ ?_|refine zoc c_d ?_ ?_|refine zoc c_u ?_ ?_|refine zoc c_v ?_ ?_|refine zoc p_kx ?_ ?_|refine zoc p_ky ?_ ?_|refine zoc p_kd ?_ ?_|refine zoc c_s ?_ ?_|refine zoc c_p ?_ ?_|refine zoc c_q ?_ ?_|refine zoc p_ks ?_ ?_|refine zoc c_xy ?_ ?_|refine zoc c_or ?_ ?_|refine zoc c_dd ?_ ?_|refine zoc c_uv ?_ ?_|refine zoc c_sd ?_ ?_|refine zoc c_sc ?_ ?_|refine zoc c_al ?_ ?_|refine zoc c_ab ?_ ?_|refine zbo ?_|refine zg3 ?_ (fun h=>?_) (fun h=>?_)|refine zg4 (fun h=>?_) (fun h=>?_)|fail)|((first|omega|(refine absurd ?_ h;decide)|(exfalso;simp [beq_bs,z48,hu] at h;done)|fail);done))
      all_goals exact sub_eq (congrArg Bo (by simp [beq_bs,z48,hu,hS,hn]))
theorem w_Lagrange (a b:V3) (t:List UInt8):Ax.Pure Tryz.prog G 12 [txV a,txV b,S (bs t)] (Bo true):=by
  have c_aw:=c_awake
  obtain ⟨ba,c_fa,ga⟩:=r_FewVAny a 8 (by decide)
  obtain ⟨bb,c_fb,gb⟩:=r_FewVAny b 8 (by decide)
  obtain ⟨bt,c_ft,gt⟩:=r_FewAny t 8 (by decide)
  cases ba
  · clear ga
    refine zen Tryz.func12 rfl Tryz.ntmps12 ?_
    intro w0 E0 hc
    repeat' (first|(with_reducible first|refine Wp_seq ?_|refine zr0 hc ?_|refine zm0 hc ?_|refine zwk ?_|refine Wp_block ?_|refine zgo ?_|refine zbn ?_|refine zge Tryz.results12 ?_|refine Sub.refl _|refine allP_nil|refine zoa1 (out':=?_) ?_|refine zca1 (y:=?_) ?_|refine zea1 (eo':=?_) ?_)|(with_reducible refine allP_cons ?_ ?_;focus (first|decide|omega))|(with_reducible first|refine zg2 ?_ ?_|refine zoc c_aw ?_ ?_|refine zoc c_fa ?_ ?_|refine zbo ?_|refine zg3 ?_ (fun h=>?_) (fun h=>?_)|refine zg4 (fun h=>?_) (fun h=>?_)|fail)|((first|omega|(refine nf1 ?_;with_reducible assumption)|(refine nf2 ?_;with_reducible assumption));done))
  cases bb
  · clear gb
    refine zen Tryz.func12 rfl Tryz.ntmps12 ?_
    intro w0 E0 hc
    repeat' (first|(with_reducible first|refine Wp_seq ?_|refine zr0 hc ?_|refine zm0 hc ?_|refine zwk ?_|refine Wp_block ?_|refine zgo ?_|refine zbn ?_|refine zge Tryz.results12 ?_|refine Sub.refl _|refine allP_nil|refine zoa1 (out':=?_) ?_|refine zca1 (y:=?_) ?_|refine zea1 (eo':=?_) ?_)|(with_reducible refine allP_cons ?_ ?_;focus (first|decide|omega))|(with_reducible first|refine zg2 ?_ ?_|refine zoc c_aw ?_ ?_|refine zoc c_fa ?_ ?_|refine zoc c_fb ?_ ?_|refine zbo ?_|refine zg3 ?_ (fun h=>?_) (fun h=>?_)|refine zg4 (fun h=>?_) (fun h=>?_)|fail)|((first|omega|(refine nf1 ?_;with_reducible assumption)|(refine nf2 ?_;with_reducible assumption));done))
  cases bt
  · clear gt
    refine zen Tryz.func12 rfl Tryz.ntmps12 ?_
    intro w0 E0 hc
    repeat' (first|(with_reducible first|refine Wp_seq ?_|refine zr0 hc ?_|refine zm0 hc ?_|refine zwk ?_|refine Wp_block ?_|refine zgo ?_|refine zbn ?_|refine zge Tryz.results12 ?_|refine Sub.refl _|refine allP_nil|refine zoa1 (out':=?_) ?_|refine zca1 (y:=?_) ?_|refine zea1 (eo':=?_) ?_)|(with_reducible refine allP_cons ?_ ?_;focus (first|decide|omega))|(with_reducible first|refine zg2 ?_ ?_|refine zoc c_aw ?_ ?_|refine zoc c_fa ?_ ?_|refine zoc c_fb ?_ ?_|refine zoc c_ft ?_ ?_|refine zbo ?_|refine zg3 ?_ (fun h=>?_) (fun h=>?_)|refine zg4 (fun h=>?_) (fun h=>?_)|fail)|((first|omega|(refine nf1 ?_;with_reducible assumption)|(refine nf2 ?_;with_reducible assumption));done))
  obtain ⟨a1,a2,a3,rfl,oa,qa1,qa2,qa3⟩:=ga rfl
  obtain ⟨b1,b2,b3,rfl,ob,qb1,qb2,qb3⟩:=gb rfl
  obtain ⟨t,rfl,ot,qt⟩:=gt rfl
  exact lag_main a1 a2 a3 b1 b2 b3 t oa ob ot qa1 qa2 qa3 qb1 qb2 qb3 qt c_fa c_fb c_ft
end Go.Proofs
end
