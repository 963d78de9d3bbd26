/- Lemmas on the program and its library: part ZW24. -/
import Derived.Test.YtoiejgkkcfkliaaGreatDoorZW22
import Derived.Test.YtoiejgkkcfkliaaGreatDoorZW23
set_option linter.unusedVariables false
set_option linter.unusedSimpArgs false
section
set_option maxHeartbeats 4000000
set_option maxRecDepth 100000
namespace Go.Proofs
open Go.Ax
theorem getD_arr2 (l:List UInt8) (i:Nat):l.toArray.getD i 0=l.getD i 0:=by simp [Array.getD_eq_getD_getElem?,List.getD_eq_getElem?_getD]
theorem isD_bad {l:List UInt8} {i:Nat} (hi:i < l.length) (h:((l.getD i 0).toNat:Int) < 48∨57 < ((l.getD i 0).toNat:Int)):¬isD l:=fun hd=>by
  have:=hd (l.getD i 0) (by rw [List.getD_eq_getElem?_getD,List.getElem?_eq_getElem hi];exact List.getElem_mem hi)
  omega
theorem isD_more {l:List UInt8} {i:Nat} (hi:i < l.length) (h0:isD (l.take i)) (h1:¬((l.getD i 0).toNat:Int) < 48) (h2:¬57 < ((l.getD i 0).toNat:Int)):isD (l.take (i+1)):=by
  rw [List.take_add_one,isD_append]
  refine ⟨h0,?_⟩
  rw [List.getD_eq_getElem?_getD,List.getElem?_eq_getElem hi] at h1 h2
  rw [List.getElem?_eq_getElem hi]
  intro b hb
  simp only [Option.toList_some,List.mem_singleton] at hb
  subst hb
  simp only [Option.getD_some] at h1 h2
  omega
theorem bs_beq (a b:List UInt8):((bs a).toList == (bs b).toList)=decide (a=b):=by
  rw [ByteArray.toList_eq,ByteArray.toList_eq]
  show (a == b)=_
  by_cases h:a=b
  · simp [h]
  · rw [decide_eq_false h];exact beq_eq_false_iff_ne.2 h
theorem c_digits (l:List UInt8) (hl:l.length≤1000000000):Ax.Pure Tryz.prog G 125 [S (bs l)] (Bo (decide (isD l∧l≠[]))):=by
  have hsz:=bs_size l
  have hnil:=bs_beq l []
  have hd:¬isD l→decide (isD l∧l≠[])=false:=fun h=>decide_eq_false fun e=>h e.1
  refine zen Tryz.func125 rfl Tryz.ntmps125 ?_
  intro w0 E0 hc
  repeat' (first|refine zR1 hc Tryz.results125 ?_|(with_reducible first|exact trivial|refine zan ?_ ?_|refine zim (fun h=>?_)|fail)|(omega;done))
  refine Wp_loopI (α:=Nat) (fun i=>stOf [(0,S (bs l)),(5,N l.length),(6,N i)] [] 0)
    (fun i=>i≤l.length∧isD (l.take i)) (fun i=>l.length - i) 0 ⟨Nat.zero_le _,isD_nil⟩ ?_ ?_
  · refine zW1 ?_ <;> repeat' (with_reducible first|exact trivial|refine zan ?_ ?_|refine zal (fun i hi=>?_))
  · rintro i ⟨hi,hi2⟩
    have ga:=getD_arr2 l i
    repeat' (first|refine zR1 hc Tryz.results125 ?_|(with_reducible first|exact trivial|refine zan ?_ ?_|refine zim (fun h=>?_)|fail)|(omega;done))
    · rw [ga] at h
      rw [hd (isD_bad (by omega) (.inr h))];exact Sub.refl _
    · rename_i g
      rw [ga] at g h
      refine ⟨i+1,⟨by omega,isD_more (by omega) hi2 g h⟩,by omega,?_⟩
      refine zW1 ?_ <;> repeat' (with_reducible first|exact trivial|refine zan ?_ ?_|refine zal (fun i hi=>?_))
    · rw [ga] at h
      rw [hd (isD_bad (by omega) (.inl h))];exact Sub.refl _
    · have hD:isD l:=by rwa [List.take_of_length_le (by omega)] at hi2
      refine sub_eq (congrArg Bo ?_)
      rw [show (⟨#[]⟩:ByteArray)=bs [] from rfl,hnil]
      by_cases e:l= []
      · rw [decide_eq_true e];exact (decide_eq_false (fun h=>h.2 e)).symm
      · rw [decide_eq_false e];exact (decide_eq_true ⟨hD,e⟩).symm
theorem c_swhole (l:List UInt8) (hl:l.length≤1000000000):Ax.Pure Tryz.prog G 117 [S (bs l)] (Bo (decide (wholeD l))):=by
  have hsz:=bs_size l
  have c_d:=c_digits l hl
  have h48:=bs_beq l [48]
  have ga:=getD_arr2 l 0
  have hh:l≠[]→(l.head?=some 48↔((l.getD 0 0).toNat:Int)=48):=fun h=>by
    cases l with
    | nil=>exact absurd rfl h
    | cons b l =>
      rw [List.head?_cons,List.getD_cons_zero]
      exact ⟨fun e=>by cases e;rfl,fun e=>congrArg some (UInt8.toNat_inj.1 (Int.ofNat.inj e))⟩
  by_cases h0:isD l∧l≠[]
  · rw [decide_eq_true h0] at c_d
    have hlp:0 < l.length:=List.length_pos_iff.2 h0.2
    refine zen Tryz.func117 rfl Tryz.ntmps117 ?_
    intro w0 E0 hc
    repeat' (first|refine zR1 hc Tryz.results117 ?_|(with_reducible first|exact trivial|refine zan ?_ ?_|refine zim (fun h=>?_)|refine zoc c_d ?_ ?_|fail)|(omega;done))
    · rw [show (⟨#[48]⟩:ByteArray)=bs [48] from rfl,h48] at h
      have g:=of_decide_eq_false h
      refine sub_eq (congrArg Bo ?_)
      rw [ga]
      by_cases e:l.head?=some 48
      · rw [decide_eq_false (show ¬wholeD l from fun h=>by rcases h.2.2 with h|h;exact g h;exact h e)]
        have:=(hh h0.2).1 e
        rw [this];rfl
      · rw [decide_eq_true (show wholeD l from ⟨h0.1,h0.2,.inr e⟩)]
        have:¬((l.getD 0 0).toNat:Int)=48:=fun x=>e ((hh h0.2).2 x)
        exact bne_iff_ne.2 this
    · rw [show (⟨#[48]⟩:ByteArray)=bs [48] from rfl,h48] at h
      rw [decide_eq_true (show wholeD l from ⟨h0.1,h0.2,.inl (of_decide_eq_true h)⟩)];exact Sub.refl _
  · rw [decide_eq_false h0] at c_d
    rw [decide_eq_false (show ¬wholeD l from fun h=>h0 ⟨h.1,h.2.1⟩)]
    refine zen Tryz.func117 rfl Tryz.ntmps117 ?_
    intro w0 E0 hc
    repeat' (first|refine zR1 hc Tryz.results117 ?_|(with_reducible first|exact trivial|refine zan ?_ ?_|refine zim (fun h=>?_)|refine zoc c_d ?_ ?_|fail)|(omega;done))
def isSm (z:Int):Bool:=decide (-9223372036854775808≤z∧z < 9223372036854775808)
def smV (z:Int):Int:=if isSm z then z else if z < 0 then -1 else 1
theorem c_Small_s (z:Int):Ax.Pure Tryz.prog G 120 [smA z] (.tup [N z,Bo true]):=by
  refine zen Tryz.func120 rfl Tryz.ntmps120 ?_
  intro w0 E0 hc
  repeat' (first|refine zR1 hc Tryz.results120 ?_|(with_reducible first|exact trivial|refine zan ?_ ?_|refine zim (fun h=>?_)|fail)|(omega;done))
theorem c_Small_b (z:Int) (h:9223372036854775808≤z.natAbs):Ax.Pure Tryz.prog G 120 [bgA z] (.tup [N (if z < 0 then -1 else 1),Bo false]):=by
  refine zen Tryz.func120 rfl Tryz.ntmps120 ?_
  intro w0 E0 hc
  repeat' (first|refine zR1 hc Tryz.results120 ?_|(with_reducible first|exact trivial|refine zan ?_ ?_|refine zim (fun h=>?_)|fail)|(omega;done))
theorem c_Small (z:Int) (h0:z≠-9223372036854775808):Ax.Pure Tryz.prog G 120 [intA z] (.tup [N (smV z),Bo (isSm z)]):=
  pure_int [] [] (fun h1 h2=>by
    have e:isSm z=true:=decide_eq_true ⟨h1,h2⟩
    rw [smV,e,if_pos rfl]
    exact c_Small_s z) (fun h=>by
    have e:isSm z=false:=decide_eq_false (by omega)
    rw [smV,e,if_neg (by decide)]
    exact c_Small_b z h)
theorem c_CheckT (neg:Bool) (n:List UInt8) (o:Option (List UInt8)) (h47:(47:UInt8)∉n) (h45:neg=false→n.head?≠some 45) (hl:(mkT neg n o).length≤900000):Ax.Pure Tryz.prog G 20 [S (bs (mkT neg n o))] (N (checkT neg n o)):=by
  obtain ⟨m,hm⟩:∃m,m=(if neg then [45] else [])++n:=⟨_,rfl⟩
  have hm47:(47:UInt8)∉m:=by rw [hm];cases neg <;> simpa using h47
  have hml:m.length≤900000:=by
    unfold mkT at hl
    rw [←List.append_assoc,←hm,List.length_append] at hl
    omega
  have hnl:n.length≤m.length:=by rw [hm,List.length_append];omega
  have c_cp:Ax.Pure Tryz.prog G 116 [S (bs m),S ⟨#[45]⟩] (.tup [S (bs n),Bo neg]):=by
    have h:=c_CutPrefix (bs m) ⟨#[45]⟩
    have e1:Lib.hasPrefix m [45]=neg:=by
      rw [hasPrefix_one,hm]
      cases neg
      · simpa using h45 rfl
      · rfl
    have e2:Lib.trimPrefix m [45]=n:=by
      cases neg
      · have e1:Lib.hasPrefix m [45]=false:=e1
        unfold Lib.trimPrefix
        rw [e1,hm];rfl
      · rw [hm];exact trimPrefix_neg n
    rw [show (bs m).data.toList=m from rfl,show (⟨#[45]⟩:ByteArray).data.toList= [45] from rfl,e1,e2] at h
    exact h
  have c_wn:=c_swhole n (by omega)
  have hn48:((bs n).toList == (⟨#[48]⟩:ByteArray).toList)=decide (n= [48]):=bs_beq n [48]
  have hns:=bs_size n
  cases o with
  | none =>
    have c_cut:=c_CutMiss m 47 hm47
    have e:mkT neg n none=m:=by rw [hm];simp [mkT]
    rw [e]
    refine zen Tryz.func20 rfl Tryz.ntmps20 ?_
    intro w0 E0 hc
    repeat' (first|refine zR1 hc Tryz.results20 ?_|(with_reducible first|exact trivial|refine zan ?_ ?_|refine zim (fun h=>?_)|refine zoc c_cut ?_ ?_|refine zoc c_cp ?_ ?_|refine zoc c_wn ?_ ?_|fail)|((first|omega|(refine nf1 ?_;assumption)|(refine nf2 ?_;assumption));done))
    all_goals
      refine sub_eq (congrArg (fun x:Int=>N x) ?_)
      have hz0:(((⟨#[]⟩:ByteArray).size:Nat):Int)=0:=rfl
      clear c_cut c_cp c_wn hc
      simp_all [checkT,badD,bigD,gcdD] <;> omega
  | some d =>
    have c_cut:=c_CutHit m d 47 hm47 (by unfold mkT at hl;rw [←List.append_assoc,←hm] at hl;exact Nat.le_trans hl (by decide))
    have e:mkT neg n (some d)=m++47 :: d:=by rw [hm];simp [mkT]
    rw [e]
    have hdl:d.length≤900000:=by rw [e,List.length_append,List.length_cons] at hl;omega
    have c_wd:=c_swhole d (by omega)
    have hd48:((bs d).toList == (⟨#[48]⟩:ByteArray).toList)=decide (d= [48]):=bs_beq d [48]
    have hd49:((bs d).toList == (⟨#[49]⟩:ByteArray).toList)=decide (d= [49]):=bs_beq d [49]
    have hds:=bs_size d
    have c_rn:(!decide (wholeD n))=false→Ax.Pure Tryz.prog G 119 [S (bs n)] (intA (valD n:Nat)):=fun h=>c_Read n (by simp at h;exact h.1) (by omega)
    have c_rd:(!decide (wholeD d))=false→Ax.Pure Tryz.prog G 119 [S (bs d)] (intA (valD d:Nat)):=fun h=>c_Read d (by simp at h;exact h.1) (by omega)
    have lt:∀x:List UInt8,x.length≤900000→isD x→valD x < 2 ^ (4*900000):=fun _ hx hD=>valD_bits (n:=900000) hD hx
    have c_g:(!decide (wholeD n))=false→(!decide (wholeD d))=false→Ax.Pure Tryz.prog G 118 [intA (valD n:Nat),intA (valD d:Nat)] (intA (Nat.gcd (valD n) (valD d):Nat)):=fun h1 h2=>
      c_gcdN _ _ _ _ (lt n (by omega) (by simp at h1;exact h1.1)) (lt d hdl (by simp at h2;exact h2.1)) (by decide) (by decide)
    obtain ⟨sv,sb,c_s,hiff⟩:∃(sv:Int) (sb:Bool),Ax.Pure Tryz.prog G 120 [intA (Nat.gcd (valD n) (valD d):Nat)] (.tup [N sv,Bo sb])∧((sb=true∧sv=1)↔Nat.gcd (valD n) (valD d)=1):=by
      refine ⟨_,_,c_Small (Nat.gcd (valD n) (valD d):Nat) (by omega),?_⟩
      unfold smV isSm
      constructor
      · rintro ⟨h1,h2⟩
        rw [h1,if_pos rfl] at h2
        omega
      · intro h
        rw [h]
        exact ⟨rfl,rfl⟩
    have hct:checkT neg n (some d)=if !decide (wholeD n) || (neg && decide (n= [48])) || (!decide (wholeD d) || (decide (d= [48]) || decide (d= [49]))) then 1 else if decide (600 < n.length) || decide (600 < d.length) then 4 else if decide (Nat.gcd (valD n) (valD d)≠1) then 1 else 0:=rfl
    rw [hct]
    clear hct hl lt
    refine zen Tryz.func20 rfl Tryz.ntmps20 ?_
    intro w0 E0 hc
    repeat' (first|refine zR1 hc Tryz.results20 ?_|(with_reducible first|exact trivial|refine zan ?_ ?_|refine zim (fun h=>?_)|refine zoc c_cut ?_ ?_|refine zoc c_cp ?_ ?_|refine zoc c_wn ?_ ?_|refine zoc c_wd ?_ ?_|refine zoc (c_rn ?_) ?_ ?_|refine zoc (c_rd ?_) ?_ ?_|refine zoc (c_g ?_ ?_) ?_ ?_|refine zoc c_s ?_ ?_|fail)|((first|omega|(with_reducible assumption)|(refine nf1 ?_;with_reducible assumption)|(refine nf2 ?_;with_reducible assumption));done))
    all_goals
      refine sub_eq (congrArg (fun x:Int=>N x) ?_)
      clear c_cut c_cp c_wn c_wd c_rn c_rd c_g c_s hc e hm
      rw [hns] at *
      simp_all
    all_goals first
      | omega
      | (intros;omega)
end Go.Proofs
end
