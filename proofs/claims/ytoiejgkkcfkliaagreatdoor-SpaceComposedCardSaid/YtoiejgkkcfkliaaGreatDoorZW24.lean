/- Lemmas on the program and its library: part ZW24. -/
import Derived.Test.YtoiejgkkcfkliaaGreatDoorZW22
import Derived.Test.YtoiejgkkcfkliaaGreatDoorZW23
set_option linter.unusedVariables false
set_option linter.unusedSimpArgs false
section
set_option maxHeartbeats 4000000
set_option maxRecDepth 100000
namespace Go.Proofs
open Go.Ax
theorem a9g (l:List UInt8) (i:Nat):l.toArray.getD i 0=l.getD i 0:=by simp [Array.getD_eq_getD_getElem?,List.getD_eq_getElem?_getD]
theorem b8k {l:List UInt8} {i:Nat} (hi:i < l.length) (h:((l.getD i 0).toNat:Int) < 48∨57 < ((l.getD i 0).toNat:Int)):¬isD l:=fun hd=>by
  have:=hd (l.getD i 0) (by rw [List.getD_eq_getElem?_getD,List.getElem?_eq_getElem hi];exact List.getElem_mem hi)
  omega
theorem c6m {l:List UInt8} {i:Nat} (hi:i < l.length) (h0:isD (l.take i)) (h1:¬((l.getD i 0).toNat:Int) < 48) (h2:¬57 < ((l.getD i 0).toNat:Int)):isD (l.take (i+1)):=by
  rw [List.take_add_one,b0b]
  refine ⟨h0,?_⟩
  rw [List.getD_eq_getElem?_getD,List.getElem?_eq_getElem hi] at h1 h2
  rw [List.getElem?_eq_getElem hi]
  intro b hb
  simp only [Option.toList_some,List.mem_singleton] at hb
  subst hb
  simp only [Option.getD_some] at h1 h2
  omega
theorem a6y (a b:List UInt8):((bs a).toList == (bs b).toList)=decide (a=b):=by
  rw [ByteArray.toList_eq,ByteArray.toList_eq]
  show (a == b)=_
  by_cases h:a=b
  · simp [h]
  · rw [decide_eq_false h];exact beq_eq_false_iff_ne.2 h
theorem b9i (l:List UInt8) (hl:l.length≤1000000000):Ax.Pure Tryz.prog G 125 [S (bs l)] (Bo (decide (isD l∧l≠[]))):=by
  have hsz:=m6 l
  have hnil:=a6y l []
  have hd:¬isD l→decide (isD l∧l≠[])=false:=fun h=>decide_eq_false fun e=>h e.1
  refine r8 Tryz.func125 rfl Tryz.ntmps125 ?_
  intro w0 E0 hc
  repeat' (first|refine n7 hc Tryz.results125 ?_|(with_reducible first|exact trivial|refine j3 ?_ ?_|refine m8 (fun h=>?_)|fail)|(omega;done))
  refine m9 (α:=Nat) (fun i=>n5 [(0,S (bs l)),(5,N l.length),(6,N i)] [] 0)
    (fun i=>i≤l.length∧isD (l.take i)) (fun i=>l.length - i) 0 ⟨Nat.zero_le _,c3t⟩ ?_ ?_
  · refine zW1 ?_ <;> repeat' (with_reducible first|exact trivial|refine j3 ?_ ?_|refine t7 (fun i hi=>?_))
  · rintro i ⟨hi,hi2⟩
    have ga:=a9g l i
    repeat' (first|refine n7 hc Tryz.results125 ?_|(with_reducible first|exact trivial|refine j3 ?_ ?_|refine m8 (fun h=>?_)|fail)|(omega;done))
    · rw [ga] at h
      rw [hd (b8k (by omega) (.inr h))];exact Sub.refl _
    · rename_i g
      rw [ga] at g h
      refine ⟨i+1,⟨by omega,c6m (by omega) hi2 g h⟩,by omega,?_⟩
      refine zW1 ?_ <;> repeat' (with_reducible first|exact trivial|refine j3 ?_ ?_|refine t7 (fun i hi=>?_))
    · rw [ga] at h
      rw [hd (b8k (by omega) (.inl h))];exact Sub.refl _
    · have hD:isD l:=by rwa [List.take_of_length_le (by omega)] at hi2
      refine j6 (congrArg Bo ?_)
      rw [show (⟨#[]⟩:ByteArray)=bs [] from rfl,hnil]
      by_cases e:l= []
      · rw [decide_eq_true e];exact (decide_eq_false (fun h=>h.2 e)).symm
      · rw [decide_eq_false e];exact (decide_eq_true ⟨hD,e⟩).symm
theorem c52 (l:List UInt8) (hl:l.length≤1000000000):Ax.Pure Tryz.prog G 117 [S (bs l)] (Bo (decide (a0l l))):=by
  have hsz:=m6 l
  have c_d:=b9i l hl
  have h48:=a6y l [48]
  have ga:=a9g l 0
  have hh:l≠[]→(l.head?=some 48↔((l.getD 0 0).toNat:Int)=48):=fun h=>by
    cases l with
    | nil=>exact absurd rfl h
    | cons b l =>
      rw [List.head?_cons,List.getD_cons_zero]
      exact ⟨fun e=>by cases e;rfl,fun e=>congrArg some (UInt8.toNat_inj.1 (Int.ofNat.inj e))⟩
  by_cases h0:isD l∧l≠[]
  · rw [decide_eq_true h0] at c_d
    have hlp:0 < l.length:=List.length_pos_iff.2 h0.2
    refine r8 Tryz.func117 rfl Tryz.ntmps117 ?_
    intro w0 E0 hc
    repeat' (first|refine n7 hc Tryz.results117 ?_|(with_reducible first|exact trivial|refine j3 ?_ ?_|refine m8 (fun h=>?_)|refine c9 c_d ?_ ?_|fail)|(omega;done))
    · rw [show (⟨#[48]⟩:ByteArray)=bs [48] from rfl,h48] at h
      have g:=of_decide_eq_false h
      refine j6 (congrArg Bo ?_)
      rw [ga]
      by_cases e:l.head?=some 48
      · rw [decide_eq_false (show ¬a0l l from fun h=>by rcases h.2.2 with h|h;exact g h;exact h e)]
        have:=(hh h0.2).1 e
        rw [this];rfl
      · rw [decide_eq_true (show a0l l from ⟨h0.1,h0.2,.inr e⟩)]
        have:¬((l.getD 0 0).toNat:Int)=48:=fun x=>e ((hh h0.2).2 x)
        exact bne_iff_ne.2 this
    · rw [show (⟨#[48]⟩:ByteArray)=bs [48] from rfl,h48] at h
      rw [decide_eq_true (show a0l l from ⟨h0.1,h0.2,.inl (of_decide_eq_true h)⟩)];exact Sub.refl _
  · rw [decide_eq_false h0] at c_d
    rw [decide_eq_false (show ¬a0l l from fun h=>h0 ⟨h.1,h.2.1⟩)]
    refine r8 Tryz.func117 rfl Tryz.ntmps117 ?_
    intro w0 E0 hc
    repeat' (first|refine n7 hc Tryz.results117 ?_|(with_reducible first|exact trivial|refine j3 ?_ ?_|refine m8 (fun h=>?_)|refine c9 c_d ?_ ?_|fail)|(omega;done))
def d2j (z:Int):Bool:=decide (-9223372036854775808≤z∧z < 9223372036854775808)
def smV (z:Int):Int:=if d2j z then z else if z < 0 then -1 else 1
theorem b16 (z:Int):Ax.Pure Tryz.prog G 120 [smA z] (.tup [N z,Bo true]):=by
  refine r8 Tryz.func120 rfl Tryz.ntmps120 ?_
  intro w0 E0 hc
  repeat' (first|refine n7 hc Tryz.results120 ?_|(with_reducible first|exact trivial|refine j3 ?_ ?_|refine m8 (fun h=>?_)|fail)|(omega;done))
theorem b15 (z:Int) (h:9223372036854775808≤z.natAbs):Ax.Pure Tryz.prog G 120 [bgA z] (.tup [N (if z < 0 then -1 else 1),Bo false]):=by
  refine r8 Tryz.func120 rfl Tryz.ntmps120 ?_
  intro w0 E0 hc
  repeat' (first|refine n7 hc Tryz.results120 ?_|(with_reducible first|exact trivial|refine j3 ?_ ?_|refine m8 (fun h=>?_)|fail)|(omega;done))
theorem c94 (z:Int) (h0:z≠-9223372036854775808):Ax.Pure Tryz.prog G 120 [n8 z] (.tup [N (smV z),Bo (d2j z)]):=
  a00 [] [] (fun h1 h2=>by
    have e:d2j z=true:=decide_eq_true ⟨h1,h2⟩
    rw [smV,e,if_pos rfl]
    exact b16 z) (fun h=>by
    have e:d2j z=false:=decide_eq_false (by omega)
    rw [smV,e,if_neg (by decide)]
    exact b15 z h)
theorem d4t (neg:Bool) (n:List UInt8) (o:Option (List UInt8)) (h47:(47:UInt8)∉n) (h45:neg=false→n.head?≠some 45) (hl:(mkT neg n o).length≤900000):Ax.Pure Tryz.prog G 20 [S (bs (mkT neg n o))] (N (a62 neg n o)):=by
  obtain ⟨m,hm⟩:∃m,m=(if neg then [45] else [])++n:=⟨_,rfl⟩
  have hm47:(47:UInt8)∉m:=by rw [hm];cases neg <;> simpa using h47
  have hml:m.length≤900000:=by
    unfold mkT at hl
    rw [←List.append_assoc,←hm,List.length_append] at hl
    omega
  have hnl:n.length≤m.length:=by rw [hm,List.length_append];omega
  have c_cp:Ax.Pure Tryz.prog G 116 [S (bs m),S ⟨#[45]⟩] (.tup [S (bs n),Bo neg]):=by
    have h:=b7t (bs m) ⟨#[45]⟩
    have e1:Lib.hasPrefix m [45]=neg:=by
      rw [a5m,hm]
      cases neg
      · simpa using h45 rfl
      · rfl
    have e2:Lib.trimPrefix m [45]=n:=by
      cases neg
      · have e1:Lib.hasPrefix m [45]=false:=e1
        unfold Lib.trimPrefix
        rw [e1,hm];rfl
      · rw [hm];exact a4w n
    rw [show (bs m).data.toList=m from rfl,show (⟨#[45]⟩:ByteArray).data.toList= [45] from rfl,e1,e2] at h
    exact h
  have c_wn:=c52 n (by omega)
  have hn48:((bs n).toList == (⟨#[48]⟩:ByteArray).toList)=decide (n= [48]):=a6y n [48]
  have hns:=m6 n
  cases o with
  | none =>
    have c_cut:=c1r m 47 hm47
    have e:mkT neg n none=m:=by rw [hm];simp [mkT]
    rw [e]
    refine r8 Tryz.func20 rfl Tryz.ntmps20 ?_
    intro w0 E0 hc
    repeat' (first|refine n7 hc Tryz.results20 ?_|(with_reducible first|exact trivial|refine j3 ?_ ?_|refine m8 (fun h=>?_)|refine c9 c_cut ?_ ?_|refine c9 c_cp ?_ ?_|refine c9 c_wn ?_ ?_|fail)|((first|omega|(refine nf1 ?_;assumption)|(refine nf2 ?_;assumption));done))
    all_goals
      refine j6 (congrArg (fun x:Int=>N x) ?_)
      have hz0:(((⟨#[]⟩:ByteArray).size:Nat):Int)=0:=rfl
      clear c_cut c_cp c_wn hc
      simp_all [a62,d1s,d1t,c8i] <;> omega
  | some d =>
    have c_cut:=b9d m d 47 hm47 (by unfold mkT at hl;rw [←List.append_assoc,←hm] at hl;exact Nat.le_trans hl (by decide))
    have e:mkT neg n (some d)=m++47 :: d:=by rw [hm];simp [mkT]
    rw [e]
    have hdl:d.length≤900000:=by rw [e,List.length_append,List.length_cons] at hl;omega
    have c_wd:=c52 d (by omega)
    have hd48:((bs d).toList == (⟨#[48]⟩:ByteArray).toList)=decide (d= [48]):=a6y d [48]
    have hd49:((bs d).toList == (⟨#[49]⟩:ByteArray).toList)=decide (d= [49]):=a6y d [49]
    have hds:=m6 d
    have c_rn:(!decide (a0l n))=false→Ax.Pure Tryz.prog G 119 [S (bs n)] (n8 (n6 n:Nat)):=fun h=>b9g n (by simp at h;exact h.1) (by omega)
    have c_rd:(!decide (a0l d))=false→Ax.Pure Tryz.prog G 119 [S (bs d)] (n8 (n6 d:Nat)):=fun h=>b9g d (by simp at h;exact h.1) (by omega)
    have lt:∀x:List UInt8,x.length≤900000→isD x→n6 x < 2 ^ (4*900000):=fun _ hx hD=>c2q (n:=900000) hD hx
    have c_g:(!decide (a0l n))=false→(!decide (a0l d))=false→Ax.Pure Tryz.prog G 118 [n8 (n6 n:Nat),n8 (n6 d:Nat)] (n8 (Nat.gcd (n6 n) (n6 d):Nat)):=fun h1 h2=>
      c3j _ _ _ _ (lt n (by omega) (by simp at h1;exact h1.1)) (lt d hdl (by simp at h2;exact h2.1)) (by decide) (by decide)
    obtain ⟨sv,sb,c_s,hiff⟩:∃(sv:Int) (sb:Bool),Ax.Pure Tryz.prog G 120 [n8 (Nat.gcd (n6 n) (n6 d):Nat)] (.tup [N sv,Bo sb])∧((sb=true∧sv=1)↔Nat.gcd (n6 n) (n6 d)=1):=by
      refine ⟨_,_,c94 (Nat.gcd (n6 n) (n6 d):Nat) (by omega),?_⟩
      unfold smV d2j
      constructor
      · rintro ⟨h1,h2⟩
        rw [h1,if_pos rfl] at h2
        omega
      · intro h
        rw [h]
        exact ⟨rfl,rfl⟩
    have hct:a62 neg n (some d)=if !decide (a0l n) || (neg && decide (n= [48])) || (!decide (a0l d) || (decide (d= [48]) || decide (d= [49]))) then 1 else if decide (600 < n.length) || decide (600 < d.length) then 4 else if decide (Nat.gcd (n6 n) (n6 d)≠1) then 1 else 0:=rfl
    rw [hct]
    clear hct hl lt
    refine r8 Tryz.func20 rfl Tryz.ntmps20 ?_
    intro w0 E0 hc
    repeat' (first|refine n7 hc Tryz.results20 ?_|(with_reducible first|exact trivial|refine j3 ?_ ?_|refine m8 (fun h=>?_)|refine c9 c_cut ?_ ?_|refine c9 c_cp ?_ ?_|refine c9 c_wn ?_ ?_|refine c9 c_wd ?_ ?_|refine c9 (c_rn ?_) ?_ ?_|refine c9 (c_rd ?_) ?_ ?_|refine c9 (c_g ?_ ?_) ?_ ?_|refine c9 c_s ?_ ?_|fail)|((first|omega|(with_reducible assumption)|(refine nf1 ?_;with_reducible assumption)|(refine nf2 ?_;with_reducible assumption));done))
    all_goals
      refine j6 (congrArg (fun x:Int=>N x) ?_)
      clear c_cut c_cp c_wn c_wd c_rn c_rd c_g c_s hc e hm
      rw [hns] at *
      simp_all
    all_goals first
      | omega
      | (intros;omega)
end Go.Proofs
end
