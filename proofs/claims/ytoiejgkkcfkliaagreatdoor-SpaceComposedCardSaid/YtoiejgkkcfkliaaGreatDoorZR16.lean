/- Lemmas on the program and its library: part ZR16. -/
import Derived.Test.YtoiejgkkcfkliaaGreatDoorZR15
set_option linter.unusedVariables false
set_option linter.unusedSimpArgs false
section
set_option maxHeartbeats 4000000
set_option maxRecDepth 100000
namespace Go.Proofs
open Go.Ax
theorem d5x {x:Nat}:(f7 BR x).length=1∧(y7 (f7 BR x)).getD 0 0=1↔x=1:=by
  constructor
  · rintro ⟨h1,h2⟩
    have hv:=j8 (B:=BR) BR2 x
    generalize f7 BR x=l at *
    cases l with
    | nil=>cases h1
    | cons d l =>
      cases l with
      | cons e l=>simp at h1
      | nil =>
        have h2:(d:Int)=1:=h2
        have hd:d=1:=by omega
        subst hd
        rw [←hv];rfl
  · rintro rfl
    have e:f7 BR 1= [1]:=by first|rfl|decide|decide +kernel
    rw [e];exact ⟨rfl,rfl⟩
theorem d2d {x:List UInt8} {n:Nat} (hx:x.length≤n) (hD:isD x):(f7 BR (n6 x)).length≤n:=
  a3d BR2 (Nat.lt_of_lt_of_le (a6l hD) (Nat.le_trans (Nat.pow_le_pow_right (by decide) hx) (Nat.pow_le_pow_left (by decide) _)))
theorem c6y (neg:Bool) (n:List UInt8) (o:Option (List UInt8)) (hn47:(47:UInt8)∉n) (hh:neg=false→n.head?≠some 45) (hl:(mkT neg n o).length≤900000):Ax.Pure Tryz.prog G 21 [S (bs (mkT neg n o))] (N (a62 neg n o)):=by
  obtain ⟨a,hA⟩:∃a,a=mkT neg n o:=⟨_,rfl⟩
  obtain ⟨t,hT⟩:∃t,t=mkT false n o:=⟨_,rfl⟩
  have hat:a=if neg then 45 :: t else t:=by rw [hA,hT];cases neg <;> simp [mkT]
  have hz:=m6 a
  have hzt:=m6 t
  have ga:=a9g a 0
  have g0:((a.getD 0 0).toNat:Int)=45↔neg=true:=by
    rw [hat]
    cases neg
    · refine ⟨fun h=>?_,fun h=>by cases h⟩
      have h:t.getD 0 0=45:=UInt8.toNat_inj.1 (Int.ofNat.inj h)
      rw [hT] at h
      cases n with
      | nil =>
        cases o with
        | none=>exact absurd h (by decide)
        | some d=>exact absurd (show (47:UInt8)=45 from h) (by decide)
      | cons b n=>exact absurd (congrArg some h) (hh rfl)
    · exact ⟨fun _=>rfl,fun _=>rfl⟩
  have hex:neg=true→(bs a).extract 1 (bs a).size=bs t:=fun h=>by rw [hat,if_pos h,cut1]
  have hex0:neg=false→a=t:=fun h=>by rw [hat,h];rfl
  have hsz:neg=true→0 < a.length:=fun h=>by rw [hat,if_pos h];exact Nat.succ_pos _
  have hlt:a.length≤900000:=by rw [hA];exact hl
  rw [←hA]
  refine r8 Tryz.func21 rfl Tryz.ntmps21 ?_
  intro w0 E0 hc
  repeat' (first|(with_reducible first|refine j0 ?_|refine zwk ?_|refine i6 ?_|refine zgo ?_|refine zbn ?_|refine zge Tryz.results21 ?_|refine Sub.refl _|refine f9|refine w6 (out':=?_) ?_|refine u9 (y:=?_) ?_|refine w5 (eo':=?_) ?_)|(with_reducible refine zrs [2] hc ?_ ?_;focus (with_unfolding_all rfl))|(with_reducible refine zrm [2] hc mixed ?_ ?_;focus (with_unfolding_all rfl))|(with_reducible refine f6 ?_ ?_;focus (first|decide|omega))|(with_reducible first|refine zg2 ?_ ?_|refine zbo ?_|refine zg3 ?_ (fun h=>?_) (fun h=>?_)|refine zg4 (fun h=>?_) (fun h=>?_)|fail)|(omega;done))
  refine b84 (α:=Unit) (fun _=>n5 [(0,S (bs a)),(3,S (bs t))] [] 0) (fun _=>True) ?_ ?_
  · repeat' (first|(with_reducible first|refine j0 ?_|refine zwk ?_|refine i6 ?_|refine zgo ?_|refine zbn ?_|refine zge Tryz.results21 ?_|refine Sub.refl _|refine f9|refine w6 (out':=?_) ?_|refine u9 (y:=?_) ?_|refine w5 (eo':=?_) ?_)|(with_reducible refine zrs [4] hc ?_ ?_;focus (with_unfolding_all rfl))|(with_reducible refine zrm [4] hc mixed ?_ ?_;focus (with_unfolding_all rfl))|(with_reducible refine f6 ?_ ?_;focus (first|decide|omega))|(with_reducible first|refine zg2 ?_ ?_|refine zbo ?_|refine zg3 ?_ (fun h=>?_) (fun h=>?_)|refine zg4 (fun h=>?_) (fun h=>?_)|fail)|(omega;done))
    · have hn:neg=true:=g0.1 (by rw [←ga];assumption)
      refine ⟨(),trivial,?_⟩
      refine zW1 ?_ <;> repeat' (with_reducible first|exact trivial|refine j3 ?_ ?_|refine t7 (fun i hi=>?_))
      rw [hex hn];exact Sub.refl _
    · have hn:neg=false:=by
        cases neg
        · rfl
        · exact absurd (g0.2 rfl) (by rw [←ga];assumption)
      have e:=hex0 hn
      refine ⟨(),trivial,?_⟩
      refine zW1 ?_ <;> repeat' (with_reducible first|exact trivial|refine j3 ?_ ?_|refine t7 (fun i hi=>?_))
      rw [e];exact Sub.refl _
    · have hn:neg=false:=by
        cases hneg:neg
        · rfl
        · have:=hsz hneg;omega
      have e:=hex0 hn
      refine ⟨(),trivial,?_⟩
      refine zW1 ?_ <;> repeat' (with_reducible first|exact trivial|refine j3 ?_ ?_|refine t7 (fun i hi=>?_))
      rw [e];exact Sub.refl _
  rintro _ -
  have hnl:n.length≤t.length:=by rw [hT];unfold mkT;simp
  have htl:t.length≤900000:=by have:=congrArg List.length hat;cases neg <;> simp at this <;> omega
  have c_n:=b21 n (by omega)
  have en:(bs t).extract 0 n.length=bs n:=by
    rw [a0k,hT];unfold mkT;simp
  have hn48:(((bs t).extract 0 n.length).toList == (⟨#[48]⟩:ByteArray).toList)=decide (n= [48]):=by rw [en];exact a6y n [48]
  rw [←en] at c_n
  have hnp:decide (a0l n)=true→0 < n.length:=fun h=>by
    have:=(of_decide_eq_true h).2.1
    exact List.length_pos_iff.2 this
  have hal:t.length≤a.length:=by rw [hat];split <;> simp
  have hg:(neg=true∧((a.toArray.getD 0 0).toNat:Int)=45)∨(neg=false∧¬((a.toArray.getD 0 0).toNat:Int)=45):=by
    rw [ga]
    cases hneg:neg
    · exact .inr ⟨rfl,fun h=>by rw [g0.1 h] at hneg;cases hneg⟩
    · exact .inl ⟨rfl,g0.2 hneg⟩
  clear hat ga g0 hex hex0 hsz hh hA
  have w2:IntKind.i64.wrap (IntKind.i64.wrap (((bs t).size:Int) - (n.length:Int)) - 1)=(t.length:Int) - n.length - 1:=by
    rw [hzt,w64 (x:=(t.length:Int) - n.length) (by omega) (by omega),w64 (by omega) (by omega)]
  cases o with
  | none =>
    have et:t=n:=by rw [hT];simp [mkT]
    have etl:t.length=n.length:=by rw [et]
    have c_s:=a7t t (by omega)
    rw [show a1q 47 t=n by rw [et];exact (a6r hn47).1] at c_s
    clear hT hl
    rcases hg with ⟨rfl,hg⟩|⟨rfl,hg⟩
    all_goals
      repeat' (first|(with_reducible first|refine j0 ?_|refine zr0 hc ?_|refine zm0 hc ?_|refine zwk ?_|refine i6 ?_|refine zgo ?_|refine zbn ?_|refine zge Tryz.results21 ?_|refine Sub.refl _|refine f9|refine w6 (out':=?_) ?_|refine u9 (y:=?_) ?_|refine w5 (eo':=?_) ?_)|(with_reducible refine f6 ?_ ?_;focus (first|decide|omega))|(with_reducible first|refine zg2 ?_ ?_|refine c9 c_s ?_ ?_|refine c9 c_n ?_ ?_|refine zbo ?_|refine zg3 ?_ (fun h=>?_) (fun h=>?_)|refine zg4 (fun h=>?_) (fun h=>?_)|fail)|((first|omega|(have:=hnp (by simpa using (by assumption:(!decide (a0l n))=false));omega));done))
      all_goals
        refine j6 (congrArg (fun x:Int=>N x) ?_)
        clear c_s c_n hc en
        simp_all [a62,d1s,d1t,c8i] <;> omega
  | some d =>
    have et:t=n++47 :: d:=by rw [hT];simp [mkT]
    have etl:t.length=n.length+(d.length+1):=by rw [et,List.length_append,List.length_cons]
    have c_s:=a7t t (by omega)
    rw [show a1q 47 t=n by rw [et];exact (a9p hn47).1] at c_s
    have w1:IntKind.i64.wrap ((n.length:Int)+1)=((n.length+1:Nat):Int):=by rw [IntKind.wrap_i64];omega
    have ed:(bs t).extract (IntKind.i64.wrap ((n.length:Int)+1)).toNat (bs t).size=bs d:=by
      rw [w1,Int.toNat_natCast,a0k,hzt,List.take_of_length_le (by rw [List.length_drop];omega),et]
      simp
    have S1:0≤IntKind.i64.wrap ((n.length:Int)+1)∧IntKind.i64.wrap ((n.length:Int)+1)≤((bs t).size:Nat)∧((bs t).size:Int)≤((bs t).size:Nat):=by rw [w1];omega
    have hd48:(((bs t).extract (IntKind.i64.wrap ((n.length:Int)+1)).toNat (bs t).size).toList == (⟨#[48]⟩:ByteArray).toList)=decide (d= [48]):=by rw [ed];exact a6y d [48]
    have hd49:(((bs t).extract (IntKind.i64.wrap ((n.length:Int)+1)).toNat (bs t).size).toList == (⟨#[49]⟩:ByteArray).toList)=decide (d= [49]):=by rw [ed];exact a6y d [49]
    have c_d:=b21 d (by omega)
    rw [←ed] at c_d
    have c_p:(!decide (a0l n))=false→(!decide (a0l d))=false→Ax.Pure Tryz.prog G 123 [S (bs t)] (.tup [rA (n6 n:Nat),rA (n6 d:Nat)]):=fun h1 h2=>by
      simp at h1 h2
      have e1:=a45 h1
      have e2:=a45 h2
      have:=c61 (n6 n:Nat) (n6 d) (by rw [Int.natAbs_natCast,e1];omega) (by rw [e2];omega)
      rwa [r6,if_neg (by omega),Int.natAbs_natCast,e1,e2,←et] at this
    have lt:∀x:List UInt8,x.length≤900000→isD x→(f7 BR (n6 x)).length≤900000:=fun _ hx hD=>d2d hx hD
    have c_g:(!decide (a0l n))=false→(!decide (a0l d))=false→Ax.Pure Tryz.prog G 124 [D (f7 BR ((n6 n:Nat):Int).natAbs),D (f7 BR ((n6 d:Nat):Int).natAbs)] (D (f7 BR (Nat.gcd (n6 n) (n6 d)))):=fun h1 h2=>by
      simp at h1 h2
      exact c60 (n6 n) (n6 d) (Nat.le_trans (lt n (by omega) h1.1) (by decide)) (Nat.le_trans (lt d (by omega) h2.1) (by decide))
    have hone:((y7 (f7 BR (Nat.gcd (n6 n) (n6 d)))).length:Int)=1∧(y7 (f7 BR (Nat.gcd (n6 n) (n6 d)))).getD 0 0=1↔Nat.gcd (n6 n) (n6 d)=1:=by
      rw [←d5x,show (y7 (f7 BR (Nat.gcd (n6 n) (n6 d)))).length=(f7 BR (Nat.gcd (n6 n) (n6 d))).length from by simp [y7]]
      exact ⟨fun h=>⟨by have:=h.1;omega,h.2⟩,fun h=>⟨by have:=h.1;omega,h.2⟩⟩
    clear hT hl lt
    rcases hg with ⟨rfl,hg⟩|⟨rfl,hg⟩
    all_goals
      repeat' (first|(with_reducible first|refine j0 ?_|refine zr0 hc ?_|refine zm0 hc ?_|refine zwk ?_|refine i6 ?_|refine zgo ?_|refine zbn ?_|refine zge Tryz.results21 ?_|refine Sub.refl _|refine f9|refine w6 (out':=?_) ?_|refine u9 (y:=?_) ?_|refine w5 (eo':=?_) ?_)|(with_reducible refine f6 ?_ ?_;focus (first|decide|omega))|(with_reducible first|refine zg2 ?_ ?_|refine c9 c_s ?_ ?_|refine c9 c_n ?_ ?_|refine c9 c_d ?_ ?_|refine c9 (c_p ?_ ?_) ?_ ?_|refine c9 (c_g ?_ ?_) ?_ ?_|refine zbo ?_|refine zg3 ?_ (fun h=>?_) (fun h=>?_)|refine zg4 (fun h=>?_) (fun h=>?_)|fail)|((first|omega|exact S1|assumption|(have:=hnp (by simpa using (by assumption:(!decide (a0l n))=false));omega));done))
      all_goals
        refine j6 (congrArg (fun x:Int=>N x) ?_)
        clear c_s c_n c_d c_p c_g hc en ed et
        generalize ((y7 (f7 BR (Nat.gcd (n6 n) (n6 d)))).length:Int)=gl at *
        generalize (y7 (f7 BR (Nat.gcd (n6 n) (n6 d)))).getD 0 0=gv at *
        simp_all [a62,d1s,d1t,c8i] <;> omega
theorem d89 (l:List UInt8) (hl:l.length≤900000):Ax.Pure Tryz.prog G 21 [S (bs l)] (N (a0a l)):=by
  obtain ⟨h1,h2,h3⟩:=b2c l
  have h:=c6y (a4o l) (a1q 47 (a0m l)) (a2o 47 (a0m l)) h2 h3 (by rw [←h1];exact hl)
  rw [←h1] at h
  exact h
end Go.Proofs
end
