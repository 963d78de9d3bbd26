/- Lemmas on the program and its library: part ZR16. -/
import Derived.Test.YtoiejgkkcfkliaaGreatDoorZR15
set_option linter.unusedVariables false
set_option linter.unusedSimpArgs false
section
set_option maxHeartbeats 4000000
set_option maxRecDepth 100000
namespace Go.Proofs
open Go.Ax
theorem digs_one {x:Nat}:(digs BR x).length=1∧(toI (digs BR x)).getD 0 0=1↔x=1:=by
  constructor
  · rintro ⟨h1,h2⟩
    have hv:=digs_val (B:=BR) BR2 x
    generalize digs BR x=l at *
    cases l with
    | nil=>cases h1
    | cons d l =>
      cases l with
      | cons e l=>simp at h1
      | nil =>
        have h2:(d:Int)=1:=h2
        have hd:d=1:=by omega
        subst hd
        rw [←hv];rfl
  · rintro rfl
    have e:digs BR 1= [1]:=by first|rfl|decide|decide +kernel
    rw [e];exact ⟨rfl,rfl⟩
theorem digs_valD {x:List UInt8} {n:Nat} (hx:x.length≤n) (hD:isD x):(digs BR (valD x)).length≤n:=
  digs_len_le BR2 (Nat.lt_of_lt_of_le (valD_lt hD) (Nat.le_trans (Nat.pow_le_pow_right (by decide) hx) (Nat.pow_le_pow_left (by decide) _)))
theorem r_CheckT (neg:Bool) (n:List UInt8) (o:Option (List UInt8)) (hn47:(47:UInt8)∉n) (hh:neg=false→n.head?≠some 45) (hl:(mkT neg n o).length≤900000):Ax.Pure Tryz.prog G 21 [S (bs (mkT neg n o))] (N (checkT neg n o)):=by
  obtain ⟨a,hA⟩:∃a,a=mkT neg n o:=⟨_,rfl⟩
  obtain ⟨t,hT⟩:∃t,t=mkT false n o:=⟨_,rfl⟩
  have hat:a=if neg then 45 :: t else t:=by rw [hA,hT];cases neg <;> simp [mkT]
  have hz:=bs_size a
  have hzt:=bs_size t
  have ga:=getD_arr2 a 0
  have g0:((a.getD 0 0).toNat:Int)=45↔neg=true:=by
    rw [hat]
    cases neg
    · refine ⟨fun h=>?_,fun h=>by cases h⟩
      have h:t.getD 0 0=45:=UInt8.toNat_inj.1 (Int.ofNat.inj h)
      rw [hT] at h
      cases n with
      | nil =>
        cases o with
        | none=>exact absurd h (by decide)
        | some d=>exact absurd (show (47:UInt8)=45 from h) (by decide)
      | cons b n=>exact absurd (congrArg some h) (hh rfl)
    · exact ⟨fun _=>rfl,fun _=>rfl⟩
  have hex:neg=true→(bs a).extract 1 (bs a).size=bs t:=fun h=>by rw [hat,if_pos h,cut1]
  have hex0:neg=false→a=t:=fun h=>by rw [hat,h];rfl
  have hsz:neg=true→0 < a.length:=fun h=>by rw [hat,if_pos h];exact Nat.succ_pos _
  have hlt:a.length≤900000:=by rw [hA];exact hl
  rw [←hA]
  refine zen Tryz.func21 rfl Tryz.ntmps21 ?_
  intro w0 E0 hc
  repeat' (first|(with_reducible first|refine Wp_seq ?_|refine zwk ?_|refine Wp_block ?_|refine zgo ?_|refine zbn ?_|refine zge Tryz.results21 ?_|refine Sub.refl _|refine allP_nil|refine zoa1 (out':=?_) ?_|refine zca1 (y:=?_) ?_|refine zea1 (eo':=?_) ?_)|(with_reducible refine zrs [2] hc ?_ ?_;focus (with_unfolding_all rfl))|(with_reducible refine zrm [2] hc mixed ?_ ?_;focus (with_unfolding_all rfl))|(with_reducible refine allP_cons ?_ ?_;focus (first|decide|omega))|(with_reducible first|refine zg2 ?_ ?_|refine zbo ?_|refine zg3 ?_ (fun h=>?_) (fun h=>?_)|refine zg4 (fun h=>?_) (fun h=>?_)|fail)|(omega;done))
  refine Wp_join2 (α:=Unit) (fun _=>stOf [(0,S (bs a)),(3,S (bs t))] [] 0) (fun _=>True) ?_ ?_
  · repeat' (first|(with_reducible first|refine Wp_seq ?_|refine zwk ?_|refine Wp_block ?_|refine zgo ?_|refine zbn ?_|refine zge Tryz.results21 ?_|refine Sub.refl _|refine allP_nil|refine zoa1 (out':=?_) ?_|refine zca1 (y:=?_) ?_|refine zea1 (eo':=?_) ?_)|(with_reducible refine zrs [4] hc ?_ ?_;focus (with_unfolding_all rfl))|(with_reducible refine zrm [4] hc mixed ?_ ?_;focus (with_unfolding_all rfl))|(with_reducible refine allP_cons ?_ ?_;focus (first|decide|omega))|(with_reducible first|refine zg2 ?_ ?_|refine zbo ?_|refine zg3 ?_ (fun h=>?_) (fun h=>?_)|refine zg4 (fun h=>?_) (fun h=>?_)|fail)|(omega;done))
    · have hn:neg=true:=g0.1 (by rw [←ga];assumption)
      refine ⟨(),trivial,?_⟩
      refine zwa1 (l1:=?_) (h1:=?_) ?_ ?_ <;> (repeat' (first|(with_reducible first|exact slotsOk_nil|exact boxesOk_nil|refine slotsOk_eq ?_ ?_|refine slotsOk_cons ?_ ?_ ?_|refine boxesOk_one rfl ?_ ?_ ?_|refine boxesOk_cons rfl (fun i hi=>?_) ?_ (fun i hi=>?_) ?_|refine sub_int ?_|refine sub_own_eq ?_ ?_|refine sub_gr_eq ?_ ?_|exact sub_nil_gr|exact sub_own_gr)|(first|omega|(simp only [IntKind.wrap_i64,IntKind.wrap_u64,List.length_append,List.length_singleton,List.length_cons,List.length_nil];omega))|((first|show AV.cl _ _|show clL _ _);simp [AV.cl,clL,Leaf.cl,clV];done)|(dsimp only [ite00];done)|(with_reducible first|exact SubLv.refl _|refine subLv_int ?_ ?_|refine subLv_frac ?_ ?_)|(dsimp only [ite00];with_reducible exact SubLv.refl _)|fail))
      rw [hex hn];exact Sub.refl _
    · have hn:neg=false:=by
        cases neg
        · rfl
        · exact absurd (g0.2 rfl) (by rw [←ga];assumption)
      have e:=hex0 hn
      refine ⟨(),trivial,?_⟩
      refine zwa1 (l1:=?_) (h1:=?_) ?_ ?_ <;> (repeat' (first|(with_reducible first|exact slotsOk_nil|exact boxesOk_nil|refine slotsOk_eq ?_ ?_|refine slotsOk_cons ?_ ?_ ?_|refine boxesOk_one rfl ?_ ?_ ?_|refine boxesOk_cons rfl (fun i hi=>?_) ?_ (fun i hi=>?_) ?_|refine sub_int ?_|refine sub_own_eq ?_ ?_|refine sub_gr_eq ?_ ?_|exact sub_nil_gr|exact sub_own_gr)|(first|omega|(simp only [IntKind.wrap_i64,IntKind.wrap_u64,List.length_append,List.length_singleton,List.length_cons,List.length_nil];omega))|((first|show AV.cl _ _|show clL _ _);simp [AV.cl,clL,Leaf.cl,clV];done)|(dsimp only [ite00];done)|(with_reducible first|exact SubLv.refl _|refine subLv_int ?_ ?_|refine subLv_frac ?_ ?_)|(dsimp only [ite00];with_reducible exact SubLv.refl _)|fail))
      rw [e];exact Sub.refl _
    · have hn:neg=false:=by
        cases hneg:neg
        · rfl
        · have:=hsz hneg;omega
      have e:=hex0 hn
      refine ⟨(),trivial,?_⟩
      refine zwa1 (l1:=?_) (h1:=?_) ?_ ?_ <;> (repeat' (first|(with_reducible first|exact slotsOk_nil|exact boxesOk_nil|refine slotsOk_eq ?_ ?_|refine slotsOk_cons ?_ ?_ ?_|refine boxesOk_one rfl ?_ ?_ ?_|refine boxesOk_cons rfl (fun i hi=>?_) ?_ (fun i hi=>?_) ?_|refine sub_int ?_|refine sub_own_eq ?_ ?_|refine sub_gr_eq ?_ ?_|exact sub_nil_gr|exact sub_own_gr)|(first|omega|(simp only [IntKind.wrap_i64,IntKind.wrap_u64,List.length_append,List.length_singleton,List.length_cons,List.length_nil];omega))|((first|show AV.cl _ _|show clL _ _);simp [AV.cl,clL,Leaf.cl,clV];done)|(dsimp only [ite00];done)|(with_reducible first|exact SubLv.refl _|refine subLv_int ?_ ?_|refine subLv_frac ?_ ?_)|(dsimp only [ite00];with_reducible exact SubLv.refl _)|fail))
      rw [e];exact Sub.refl _
  rintro _ -
  have hnl:n.length≤t.length:=by rw [hT];unfold mkT;simp
  have htl:t.length≤900000:=by have:=congrArg List.length hat;cases neg <;> simp at this <;> omega
  have c_n:=r_decimalForm n (by omega)
  have en:(bs t).extract 0 n.length=bs n:=by
    rw [bs_extract,hT];unfold mkT;simp
  have hn48:(((bs t).extract 0 n.length).toList == (⟨#[48]⟩:ByteArray).toList)=decide (n= [48]):=by rw [en];exact bs_beq n [48]
  rw [←en] at c_n
  have hnp:decide (wholeD n)=true→0 < n.length:=fun h=>by
    have:=(of_decide_eq_true h).2.1
    exact List.length_pos_iff.2 this
  have hal:t.length≤a.length:=by rw [hat];split <;> simp
  have hg:(neg=true∧((a.toArray.getD 0 0).toNat:Int)=45)∨(neg=false∧¬((a.toArray.getD 0 0).toNat:Int)=45):=by
    rw [ga]
    cases hneg:neg
    · exact .inr ⟨rfl,fun h=>by rw [g0.1 h] at hneg;cases hneg⟩
    · exact .inl ⟨rfl,g0.2 hneg⟩
  clear hat ga g0 hex hex0 hsz hh hA
  have w2:IntKind.i64.wrap (IntKind.i64.wrap (((bs t).size:Int) - (n.length:Int)) - 1)=(t.length:Int) - n.length - 1:=by
    rw [hzt,w64 (x:=(t.length:Int) - n.length) (by omega) (by omega),w64 (by omega) (by omega)]
  cases o with
  | none =>
    have et:t=n:=by rw [hT];simp [mkT]
    have etl:t.length=n.length:=by rw [et]
    have c_s:=r_slash t (by omega)
    rw [show upTo 47 t=n by rw [et];exact (upTo_miss hn47).1] at c_s
    clear hT hl
    rcases hg with ⟨rfl,hg⟩|⟨rfl,hg⟩
    all_goals
      repeat' (first|(with_reducible first|refine Wp_seq ?_|refine zr0 hc ?_|refine zm0 hc ?_|refine zwk ?_|refine Wp_block ?_|refine zgo ?_|refine zbn ?_|refine zge Tryz.results21 ?_|refine Sub.refl _|refine allP_nil|refine zoa1 (out':=?_) ?_|refine zca1 (y:=?_) ?_|refine zea1 (eo':=?_) ?_)|(with_reducible refine allP_cons ?_ ?_;focus (first|decide|omega))|(with_reducible first|refine zg2 ?_ ?_|refine zoc c_s ?_ ?_|refine zoc c_n ?_ ?_|refine zbo ?_|refine zg3 ?_ (fun h=>?_) (fun h=>?_)|refine zg4 (fun h=>?_) (fun h=>?_)|fail)|((first|omega|(have:=hnp (by simpa using (by assumption:(!decide (wholeD n))=false));omega));done))
      all_goals
        refine sub_eq (congrArg (fun x:Int=>N x) ?_)
        clear c_s c_n hc en
        simp_all [checkT,badD,bigD,gcdD] <;> omega
  | some d =>
    have et:t=n++47 :: d:=by rw [hT];simp [mkT]
    have etl:t.length=n.length+(d.length+1):=by rw [et,List.length_append,List.length_cons]
    have c_s:=r_slash t (by omega)
    rw [show upTo 47 t=n by rw [et];exact (upTo_hit hn47).1] at c_s
    have w1:IntKind.i64.wrap ((n.length:Int)+1)=((n.length+1:Nat):Int):=by rw [IntKind.wrap_i64];omega
    have ed:(bs t).extract (IntKind.i64.wrap ((n.length:Int)+1)).toNat (bs t).size=bs d:=by
      rw [w1,Int.toNat_natCast,bs_extract,hzt,List.take_of_length_le (by rw [List.length_drop];omega),et]
      simp
    have S1:0≤IntKind.i64.wrap ((n.length:Int)+1)∧IntKind.i64.wrap ((n.length:Int)+1)≤((bs t).size:Nat)∧((bs t).size:Int)≤((bs t).size:Nat):=by rw [w1];omega
    have hd48:(((bs t).extract (IntKind.i64.wrap ((n.length:Int)+1)).toNat (bs t).size).toList == (⟨#[48]⟩:ByteArray).toList)=decide (d= [48]):=by rw [ed];exact bs_beq d [48]
    have hd49:(((bs t).extract (IntKind.i64.wrap ((n.length:Int)+1)).toNat (bs t).size).toList == (⟨#[49]⟩:ByteArray).toList)=decide (d= [49]):=by rw [ed];exact bs_beq d [49]
    have c_d:=r_decimalForm d (by omega)
    rw [←ed] at c_d
    have c_p:(!decide (wholeD n))=false→(!decide (wholeD d))=false→Ax.Pure Tryz.prog G 123 [S (bs t)] (.tup [rA (valD n:Nat),rA (valD d:Nat)]):=fun h1 h2=>by
      simp at h1 h2
      have e1:=dec_wholeD h1
      have e2:=dec_wholeD h2
      have:=r_partsF (valD n:Nat) (valD d) (by rw [Int.natAbs_natCast,e1];omega) (by rw [e2];omega)
      rwa [intL,if_neg (by omega),Int.natAbs_natCast,e1,e2,←et] at this
    have lt:∀x:List UInt8,x.length≤900000→isD x→(digs BR (valD x)).length≤900000:=fun _ hx hD=>digs_valD hx hD
    have c_g:(!decide (wholeD n))=false→(!decide (wholeD d))=false→Ax.Pure Tryz.prog G 124 [D (digs BR ((valD n:Nat):Int).natAbs),D (digs BR ((valD d:Nat):Int).natAbs)] (D (digs BR (Nat.gcd (valD n) (valD d)))):=fun h1 h2=>by
      simp at h1 h2
      exact r_common (valD n) (valD d) (Nat.le_trans (lt n (by omega) h1.1) (by decide)) (Nat.le_trans (lt d (by omega) h2.1) (by decide))
    have hone:((toI (digs BR (Nat.gcd (valD n) (valD d)))).length:Int)=1∧(toI (digs BR (Nat.gcd (valD n) (valD d)))).getD 0 0=1↔Nat.gcd (valD n) (valD d)=1:=by
      rw [←digs_one,show (toI (digs BR (Nat.gcd (valD n) (valD d)))).length=(digs BR (Nat.gcd (valD n) (valD d))).length from by simp [toI]]
      exact ⟨fun h=>⟨by have:=h.1;omega,h.2⟩,fun h=>⟨by have:=h.1;omega,h.2⟩⟩
    clear hT hl lt
    rcases hg with ⟨rfl,hg⟩|⟨rfl,hg⟩
    all_goals
      repeat' (first|(with_reducible first|refine Wp_seq ?_|refine zr0 hc ?_|refine zm0 hc ?_|refine zwk ?_|refine Wp_block ?_|refine zgo ?_|refine zbn ?_|refine zge Tryz.results21 ?_|refine Sub.refl _|refine allP_nil|refine zoa1 (out':=?_) ?_|refine zca1 (y:=?_) ?_|refine zea1 (eo':=?_) ?_)|(with_reducible refine allP_cons ?_ ?_;focus (first|decide|omega))|(with_reducible first|refine zg2 ?_ ?_|refine zoc c_s ?_ ?_|refine zoc c_n ?_ ?_|refine zoc c_d ?_ ?_|refine zoc (c_p ?_ ?_) ?_ ?_|refine zoc (c_g ?_ ?_) ?_ ?_|refine zbo ?_|refine zg3 ?_ (fun h=>?_) (fun h=>?_)|refine zg4 (fun h=>?_) (fun h=>?_)|fail)|((first|omega|exact S1|assumption|(have:=hnp (by simpa using (by assumption:(!decide (wholeD n))=false));omega));done))
      all_goals
        refine sub_eq (congrArg (fun x:Int=>N x) ?_)
        clear c_s c_n c_d c_p c_g hc en ed et
        generalize ((toI (digs BR (Nat.gcd (valD n) (valD d)))).length:Int)=gl at *
        generalize (toI (digs BR (Nat.gcd (valD n) (valD d)))).getD 0 0=gv at *
        simp_all [checkT,badD,bigD,gcdD] <;> omega
theorem r_Check (l:List UInt8) (hl:l.length≤900000):Ax.Pure Tryz.prog G 21 [S (bs l)] (N (checkL l)):=by
  obtain ⟨h1,h2,h3⟩:=mkT_parts l
  have h:=r_CheckT (isNeg l) (upTo 47 (unsig l)) (behind 47 (unsig l)) h2 h3 (by rw [←h1];exact hl)
  rw [←h1] at h
  exact h
end Go.Proofs
end
