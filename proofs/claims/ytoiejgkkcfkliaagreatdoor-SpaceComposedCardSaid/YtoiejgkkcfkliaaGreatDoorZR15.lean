/- Lemmas on the program and its library: part ZR15. -/
import Derived.Test.YtoiejgkkcfkliaaGreatDoorZR10
import Derived.Test.YtoiejgkkcfkliaaGreatDoorZW24
set_option linter.unusedVariables false
set_option linter.unusedSimpArgs false
section
set_option maxHeartbeats 4000000
set_option maxRecDepth 100000
namespace Go.Proofs
open Go.Ax
theorem d6l (l:List UInt8) (hl:l.length≤1000000000):Ax.Pure Tryz.prog G 133 [S (bs l)] (Bo (decide (isD l))):=by
  have hsz:=m6 l
  have hd:¬isD l→decide (isD l)=false:=fun h=>decide_eq_false h
  refine r8 Tryz.func133 rfl Tryz.ntmps133 ?_
  intro w0 E0 hc
  repeat' (first|refine n7 hc Tryz.results133 ?_|(with_reducible first|exact trivial|refine j3 ?_ ?_|refine m8 (fun h=>?_)|fail)|(omega;done))
  refine m9 (α:=Nat) (fun i=>n5 [(0,S (bs l)),(3,N i)] [] 0)
    (fun i=>i≤l.length∧isD (l.take i)) (fun i=>l.length - i) 0 ⟨Nat.zero_le _,c3t⟩ ?_ ?_
  · refine zW1 ?_ <;> repeat' (with_reducible first|exact trivial|refine j3 ?_ ?_|refine t7 (fun i hi=>?_))
  · rintro i ⟨hi,hi2⟩
    have ga:=a9g l i
    repeat' (first|refine n7 hc Tryz.results133 ?_|(with_reducible first|exact trivial|refine j3 ?_ ?_|refine m8 (fun h=>?_)|fail)|(omega;done))
    · rw [ga] at h
      rw [hd (b8k (by omega) (.inr h))];exact Sub.refl _
    · rename_i g
      rw [ga] at g h
      refine ⟨i+1,⟨by omega,c6m (by omega) hi2 g h⟩,by omega,?_⟩
      refine zW1 ?_ <;> repeat' (with_reducible first|exact trivial|refine j3 ?_ ?_|refine t7 (fun i hi=>?_))
    · rw [ga] at h
      rw [hd (b8k (by omega) (.inl h))];exact Sub.refl _
    · have hD:isD l:=by rwa [List.take_of_length_le (by omega)] at hi2
      rw [decide_eq_true hD];exact Sub.refl _
theorem b21 (l:List UInt8) (hl:l.length≤1000000000):Ax.Pure Tryz.prog G 122 [S (bs l)] (Bo (decide (a0l l))):=by
  have hsz:=m6 l
  have c_d:=d6l l hl
  have ga:=a9g l 0
  have hh:l≠[]→(l.head?=some 48↔((l.getD 0 0).toNat:Int)=48):=fun h=>by
    cases l with
    | nil=>exact absurd rfl h
    | cons b l =>
      rw [List.head?_cons,List.getD_cons_zero]
      exact ⟨fun e=>by cases e;rfl,fun e=>congrArg some (UInt8.toNat_inj.1 (Int.ofNat.inj e))⟩
  have h1:l.length=1→isD l→a0l l:=fun h1 h=>by
    refine ⟨h,(fun e=>by rw [e] at h1;cases h1),?_⟩
    by_cases e:l.head?=some 48
    · left
      cases l with
      | nil=>cases h1
      | cons b l=>cases e;cases l with|nil=>rfl|cons c l=>cases h1
    · exact .inr e
  have h2:1 < l.length→¬((l.getD 0 0).toNat:Int)=48→isD l→a0l l:=fun h1 h2 h=>
    ⟨h,(fun e=>by rw [e] at h1;cases h1),.inr fun e=>h2 ((hh (fun e=>by rw [e] at h1;cases h1)).1 e)⟩
  have h3:1 < l.length→((l.getD 0 0).toNat:Int)=48→¬a0l l:=fun h1 h2 h=>by
    rcases h.2.2 with g|g
    · rw [g] at h1;exact absurd h1 (by decide)
    · exact g ((hh h.2.1).2 h2)
  have h4:l.length=0→¬a0l l:=fun h0 h=>h.2.1 (List.length_eq_zero_iff.1 h0)
  have h5:¬isD l→¬a0l l:=fun h g=>h g.1
  refine r8 Tryz.func122 rfl Tryz.ntmps122 ?_
  intro w0 E0 hc
  have hdd:(isD l→a0l l)→decide (isD l)=decide (a0l l):=fun h=>decide_eq_decide.2 ⟨h,fun g=>g.1⟩
  repeat' (first|refine n7 hc Tryz.results122 ?_|(with_reducible first|exact trivial|refine j3 ?_ ?_|refine m8 (fun h=>?_)|refine c9 c_d ?_ ?_|fail)|(omega;done))
  · rw [ga] at h
    rw [decide_eq_false (h3 (by omega) h)];exact Sub.refl _
  · rw [ga] at h
    rw [hdd (h2 (by omega) h)];exact Sub.refl _
  · rw [hdd (h1 (by omega))];exact Sub.refl _
  · rw [decide_eq_false (h4 (by omega))];exact Sub.refl _
theorem d2t (q:Rat) {k:Nat} (hq:Q k q) (hk:k≤1000000):Ax.Pure Tryz.prog G 205 [S (bs (c5 q))] (Bo (decide (q.den=1))):=by
  have hl:=Q_ll hq
  have c_sl:=a7t (c5 q) (by omega)
  rw [c5b] at c_sl
  have hs:=m6 (c5 q)
  have hl2:((r6 q.num).length:Int)=((bs (c5 q)).size:Nat)↔q.den=1:=by
    rw [hs]
    unfold c5
    split
    · rename_i h;exact ⟨fun _=>h,fun _=>rfl⟩
    · rename_i h
      rw [List.length_append,List.length_cons]
      exact ⟨fun h=>by omega,fun g=>absurd g h⟩
  refine r8 Tryz.func205 rfl Tryz.ntmps205 ?_
  intro w0 E0 hc
  repeat' (first|refine n7 hc Tryz.results205 ?_|(with_reducible first|exact trivial|refine j3 ?_ ?_|refine m8 (fun h=>?_)|refine c9 c_sl ?_ ?_|fail)|(omega;done))
  all_goals exact j6 (congrArg Bo (decide_eq_decide.2 hl2))
theorem r_Den (q:Rat) {k:Nat} (hq:Q k q) (hk:k≤1000000):Ax.Pure Tryz.prog G 157 [S (bs (c5 q))] (S (bs (Lib.decDigits q.den))):=by
  have hl:=Q_ll hq
  have c_sl:=a7t (c5 q) (by omega)
  rw [c5b] at c_sl
  have hs:=m6 (c5 q)
  by_cases h1:q.den=1
  · have e:c5 q=r6 q.num:=by unfold c5;rw [if_pos h1]
    rw [←e] at c_sl
    refine r8 Tryz.func157 rfl Tryz.ntmps157 ?_
    intro w0 E0 hc
    repeat' (first|refine n7 hc Tryz.results157 ?_|(with_reducible first|exact trivial|refine j3 ?_ ?_|refine m8 (fun h=>?_)|refine c9 c_sl ?_ ?_|fail)|(omega;done))
    all_goals rw [h1,b19];exact Sub.refl _
  · have e:c5 q=r6 q.num++47 :: Lib.decDigits q.den:=by unfold c5;rw [if_neg h1]
    have hl2:(c5 q).length=(r6 q.num).length+((Lib.decDigits q.den).length+1):=by rw [e,List.length_append,List.length_cons]
    have w1:IntKind.i64.wrap (((r6 q.num).length:Int)+1)=(((r6 q.num).length+1:Nat):Int):=by rw [IntKind.wrap_i64];omega
    have e2:(bs (c5 q)).extract (IntKind.i64.wrap (((r6 q.num).length:Int)+1)).toNat (bs (c5 q)).size=bs (Lib.decDigits q.den):=by
      rw [w1,Int.toNat_natCast,a0k,hs]
      rw [List.take_of_length_le (by rw [List.length_drop];omega),e]
      simp
    have S1:0≤IntKind.i64.wrap (((r6 q.num).length:Int)+1)∧IntKind.i64.wrap (((r6 q.num).length:Int)+1)≤((bs (c5 q)).size:Nat)∧(bs (c5 q)).size≤(bs (c5 q)).size:=by
      rw [w1];omega
    refine r8 Tryz.func157 rfl Tryz.ntmps157 ?_
    intro w0 E0 hc
    repeat' (first|refine n7 hc Tryz.results157 ?_|(with_reducible first|exact trivial|refine j3 ?_ ?_|refine m8 (fun h=>?_)|refine c9 c_sl ?_ ?_|fail)|((first|omega|exact S1);done))
    all_goals exact j6 (congrArg S e2)
theorem e1q (z:Int) (hz:(r6 z).length≤1000000000):Ax.Pure Tryz.prog G 159 [S (bs (r6 z))] (S (bs (Lib.decDigits z.natAbs))):=by
  have c_s:=c4i (z:Rat)
  rw [b97] at c_s
  have hn:=@d1d (z:Rat)
  rw [Rat.num_intCast] at hn
  have he:sgQ (z:Rat) < 0→(bs (r6 z)).extract 1 (bs (r6 z)).size=bs (Lib.decDigits z.natAbs):=fun h=>by rw [r6,if_pos (hn.1 h),cut1]
  have h1:sgQ (z:Rat) < 0→1≤(bs (r6 z)).size:=fun h=>by rw [m6,r6,if_pos (hn.1 h)];simp
  have h0:¬sgQ (z:Rat) < 0→bs (r6 z)=bs (Lib.decDigits z.natAbs):=fun h=>by rw [r6,if_neg (fun g=>h (hn.2 g))]
  generalize sgQ (z:Rat)=s at *
  refine r8 Tryz.func159 rfl Tryz.ntmps159 ?_
  intro w0 E0 hc
  repeat' (first|refine n7 hc Tryz.results159 ?_|(with_reducible first|exact trivial|refine j3 ?_ ?_|refine m8 (fun h=>?_)|refine c9 c_s ?_ ?_|fail)|((first|omega|(have:=h1 (by assumption);omega));done))
  · exact j6 (congrArg S (he (by assumption)))
  · exact j6 (congrArg S (h0 (by assumption)))
theorem d05 (q:Rat) {k:Nat} (hq:Q k q) (hk:k≤1000000):Ax.Pure Tryz.prog G 140 [S (bs (c5 q))] (N (if y4 q=true then 4 else 0)):=by
  obtain ⟨h1,h2⟩:=Q_dl hq
  have h3:=b1e q.num
  have c_n:=r_Num q hq hk
  have c_d:=r_Den q hq hk
  have c_a:=e1q q.num (by omega)
  have s1:=m6 (Lib.decDigits q.num.natAbs)
  have s2:=m6 (Lib.decDigits q.den)
  have hb:y4 q=true↔600 < (Lib.decDigits q.num.natAbs).length∨600 < (Lib.decDigits q.den).length:=by unfold y4 b6h;simp
  refine r8 Tryz.func140 rfl Tryz.ntmps140 ?_
  intro w0 E0 hc
  repeat' (first|refine n7 hc Tryz.results140 ?_|(with_reducible first|exact trivial|refine j3 ?_ ?_|refine m8 (fun h=>?_)|refine c9 c_n ?_ ?_|refine c9 c_d ?_ ?_|refine c9 c_a ?_ ?_|fail)|(omega;done))
  all_goals first
    | (rw [if_pos (hb.2 (by omega))];exact Sub.refl _)
    | (rw [if_neg (fun h=>absurd (hb.1 h) (by omega))];exact Sub.refl _)
theorem r_Floor (q:Rat) {k:Nat} (hq:Q k q) (hk:k≤1000000):Ax.Pure Tryz.prog G 104 [S (bs (c5 q))] (S (bs (c5 ((q.floor:Int):Rat)))):=by
  have hd:=Q_dl hq
  have hr:=c7t hq
  have c_w:=d2t q hq hk
  have hpos:=q.den_pos
  have c_p:=b2h q (by omega) (by omega)
  have c_f:=c83 q.num q.den (by omega) (by omega) (by omega)
  rw [b97]
  have hfl:rl (q.num / q.den)≤1000000:=Nat.le_trans (b8t (by have:=Int.natAbs_ediv_le_natAbs q.num (q.den:Int);omega)) (by omega:rl q.num≤1000000)
  have c_t:=c4j (q.num / q.den) (by omega)
  have e0:q.den≠1→q.floor=q.num / q.den:=fun h=>by unfold Rat.floor;rw [if_neg h]
  have e1:q.den=1→c5 q=r6 q.floor:=fun h=>by unfold Rat.floor c5;rw [if_pos h,if_pos h]
  by_cases h1:q.den=1
  · rw [decide_eq_true h1] at c_w
    refine r8 Tryz.func104 rfl Tryz.ntmps104 ?_
    intro w0 E0 hc
    repeat' (first|refine n7 hc Tryz.results104 ?_|(with_reducible first|exact trivial|refine j3 ?_ ?_|refine m8 (fun h=>?_)|refine c9 c_w ?_ ?_|fail)|(omega;done))
    all_goals rw [e1 h1];exact Sub.refl _
  · rw [decide_eq_false h1] at c_w
    rw [e0 h1]
    refine r8 Tryz.func104 rfl Tryz.ntmps104 ?_
    intro w0 E0 hc
    repeat' (first|refine n7 hc Tryz.results104 ?_|(with_reducible first|exact trivial|refine j3 ?_ ?_|refine m8 (fun h=>?_)|refine c9 c_w ?_ ?_|refine c9 c_p ?_ ?_|refine c9 c_f ?_ ?_|refine c9 c_t ?_ ?_|fail)|(omega;done))
end Go.Proofs
end
