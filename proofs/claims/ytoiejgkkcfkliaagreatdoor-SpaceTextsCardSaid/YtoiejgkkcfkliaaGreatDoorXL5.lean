/- Lemmas on the program and its library: part XL5. -/
import Derived.Test.YtoiejgkkcfkliaaGreatDoorXR23
import Derived.Test.YtoiejgkkcfkliaaGreatDoorXR24
import Derived.Test.YtoiejgkkcfkliaaGreatDoorZL1
set_option linter.unusedVariables false
set_option linter.unusedSimpArgs false
section
set_option maxHeartbeats 8000000
set_option maxRecDepth 100000
namespace Go.Proofs
open Go.Ax
theorem nft {p:Prop} {b:Bool} (h:(!b)=true) (g:b=true):p:=by rw [g] at h;cases h
theorem prR_tup (neg:Bool) (a b:Nat):∃(t:List UInt8) (e:Int),prR neg a b= .tup [S (bs t),N e]:=by
  unfold prR
  split
  · exact ⟨[],6,rfl⟩
  · exact ⟨_,_,rfl⟩
theorem parse_tup {p:Prop} [Decidable p] (neg:Bool) (a b:Nat):∃(t:List UInt8) (e:Int),(if p then prR neg a b else .tup [S ⟨#[]⟩,N 28])= .tup [S (bs t),N e]:=by
  split
  · exact prR_tup neg a b
  · exact ⟨[],28,rfl⟩
theorem sep_or {c:UInt8} (h:sepB c=true):c=46∨c=47:=by
  unfold sepB at h
  rw [Bool.or_eq_true,decide_eq_true_iff,decide_eq_true_iff] at h
  exact h.symm
theorem split46 {d:List UInt8} (h:(46:UInt8)∈d):∃d1 d2,d=d1++46 :: d2∧(46:UInt8)∉d1:=by
  induction d with
  | nil=>exact absurd h (by simp)
  | cons x d ih =>
    by_cases e:x=46
    · exact ⟨[],d,by rw [e];rfl,by simp⟩
    · obtain ⟨d1,d2,h1,h2⟩:=ih (by rcases List.mem_cons.1 h with h|h;exact absurd h.symm e;exact h)
      exact ⟨x :: d1,d2,by rw [h1];rfl,fun hm=>by rcases List.mem_cons.1 hm with hm|hm;exact e hm.symm;exact h2 hm⟩
theorem parse_both (l:List UInt8):∃(t:List UInt8) (e:Int),Ax.Pure Tryz.prog G 22 [S (bs l)] (.tup [S (bs t),N e])∧Ax.Pure Tryz.prog G 23 [S (bs l)] (.tup [S (bs t),N e]):=by
  by_cases hl:4096 < l.length
  · exact ⟨[],29,s_Parse_long l hl,r_Parse_long l hl⟩
  obtain ⟨h1,h45⟩:=prT_parts l
  generalize isNeg l=neg at *
  generalize unsig l=u at *
  subst h1
  obtain ⟨hn,hu⟩:=upSep_split u
  generalize upSep u=n at *
  have n46:(46:UInt8)∉n:=fun h=>absurd (hn _ h) (by decide)
  have n47:(47:UInt8)∉n:=fun h=>absurd (hn _ h) (by decide)
  rcases hu with rfl|⟨c,d,hc,rfl⟩
  · obtain ⟨t,e,he⟩:=parse_tup (p:=isD u∧u≠[]) neg (valD u) 1
    have h1:=s_Parse_none neg u h45 n46 n47 (by omega)
    have h2:=r_Parse_none neg u h45 hn (by omega)
    rw [he] at h1 h2
    exact ⟨t,e,h1,h2⟩
  · rcases sep_or hc with rfl|rfl
    · obtain ⟨t,e,he⟩:=parse_tup (p:=(isD n∧n≠[])∧(isD d∧d≠[])) neg (valD (n++d)) (10 ^ d.length)
      have h1:=s_Parse_dot neg n d h45 n46 (by omega)
      have h2:=r_Parse_dot neg n d h45 hn (by omega)
      rw [he] at h1 h2
      exact ⟨t,e,h1,h2⟩
    · have h2:=r_Parse_slash neg n d h45 hn (by omega)
      by_cases hd:(46:UInt8)∈d
      · obtain ⟨d1,d2,rfl,hd1⟩:=split46 hd
        have hnd:¬isD (d1++46 :: d2):=fun h=>absurd (h 46 (by simp)) (by decide)
        have hnn:¬isD (n++47 :: d1):=fun h=>absurd (h 47 (by simp)) (by decide)
        have e:n++47 :: (d1++46 :: d2)=(n++47 :: d1)++46 :: d2:=by simp
        rw [if_neg (fun h=>hnd h.2.1)] at h2
        have h1:=s_Parse_dot neg (n++47 :: d1) d2 (by rw [←e];exact h45) (by simp [n46,hd1]) (by rw [←e];omega)
        rw [if_neg (fun h=>hnn h.1.1),←e] at h1
        exact ⟨[],28,h1,h2⟩
      · obtain ⟨t,e,he⟩:=parse_tup (p:=(isD n∧n≠[])∧(isD d∧d≠[])) neg (valD n) (valD d)
        have h1:=s_Parse_slash neg n d h45 (by simp [n46,hd]) n47 (by omega)
        rw [he] at h1 h2
        exact ⟨t,e,h1,h2⟩
theorem w_Texts (l:List UInt8) (n d:Int) (h:i64 n∧i64 d):Ax.Pure Tryz.prog G 3 [S (bs l),N n,N d] (Bo true):=by
  have c_aw:=c_awake
  have hs:=bs_size l
  by_cases hlen:(l.length≤40∨1200≤l.length)∧l.length≤5000
  · obtain ⟨l1,l2⟩:=hlen
    have c_nm:=c_IsName (bs l)
    have r_nm:=r_IsName (bs l) (by omega)
    have c_ck:=c_Check l (by omega)
    have r_ck:=r_Check l (by omega)
    obtain ⟨t,e,c_pa,r_pa⟩:=parse_both l
    have hb:=beq_bs t
    have c_of:=s_Of n d h
    obtain ⟨⟨n1,n2⟩,d1,d2⟩:=h
    generalize nameB (bs l)=b at *
    generalize checkL l=ck at *
    by_cases h0:d=0
    · rw [if_pos h0] at c_of
      have p_n:=l_num_bad 6 (by decide) ⟨#[]⟩
      cases b
      all_goals
        refine zen Tryz.func3 rfl Tryz.ntmps3 ?_
        intro w0 E0 hc
        repeat' (first|(with_reducible first|refine Wp_seq ?_|refine zr0 hc ?_|refine zm0 hc ?_|refine zwk ?_|refine Wp_block ?_|refine zgo ?_|refine zbn ?_|refine zge Tryz.results3 ?_|refine Sub.refl _|refine allP_nil|refine zoa1 (out':=?_) ?_|refine zca1 (y:=?_) ?_|refine zea1 (eo':=?_) ?_)|(with_reducible refine allP_cons ?_ ?_;focus (first|decide|omega))|(with_reducible first|refine zg2 ?_ ?_|refine zoc c_aw ?_ ?_|refine zoc c_nm ?_ ?_|refine zoc r_nm ?_ ?_|refine zoc c_ck ?_ ?_|refine zoc r_ck ?_ ?_|refine zoc c_pa ?_ ?_|refine zoc r_pa ?_ ?_|refine zoc c_of ?_ ?_|refine zoc p_n ?_ ?_|refine zbo ?_|refine zg3 ?_ (fun h=>?_) (fun h=>?_)|refine zg4 (fun h=>?_) (fun h=>?_)|fail)|((first|omega|exact nfb h hb|exact nft h hb|(refine nf1 ?_;with_reducible assumption)|(refine nf2 ?_;with_reducible assumption)|(exact absurd h (by decide)));done))
        all_goals skip
    · rw [if_neg h0] at c_of
      have r_of:=r_Of n d h0 n1 (by omega) d1 (by omega)
      have q1 : n.natAbs < 2 ^ 64 := by have : 2 ^ 64 = 18446744073709551616 := by decide
                                        omega
      have q2 : d.natAbs < 2 ^ 64 := by have : 2 ^ 64 = 18446744073709551616 := by decide
                                        omega
      have p_n:=l_num_ok (k:=64) (by decide) (Rat.divInt n d) (Q_divInt h0 q1 q2)
      clear q1 q2
      cases b
      all_goals
        refine zen Tryz.func3 rfl Tryz.ntmps3 ?_
        intro w0 E0 hc
        repeat' (first|(with_reducible first|refine Wp_seq ?_|refine zr0 hc ?_|refine zm0 hc ?_|refine zwk ?_|refine Wp_block ?_|refine zgo ?_|refine zbn ?_|refine zge Tryz.results3 ?_|refine Sub.refl _|refine allP_nil|refine zoa1 (out':=?_) ?_|refine zca1 (y:=?_) ?_|refine zea1 (eo':=?_) ?_)|(with_reducible refine allP_cons ?_ ?_;focus (first|decide|omega))|(with_reducible first|refine zg2 ?_ ?_|refine zoc c_aw ?_ ?_|refine zoc c_nm ?_ ?_|refine zoc r_nm ?_ ?_|refine zoc c_ck ?_ ?_|refine zoc r_ck ?_ ?_|refine zoc c_pa ?_ ?_|refine zoc r_pa ?_ ?_|refine zoc c_of ?_ ?_|refine zoc r_of ?_ ?_|refine zoc p_n ?_ ?_|refine zbo ?_|refine zg3 ?_ (fun h=>?_) (fun h=>?_)|refine zg4 (fun h=>?_) (fun h=>?_)|fail)|((first|omega|exact nfb h hb|exact nft h hb|(refine nf1 ?_;with_reducible assumption)|(refine nf2 ?_;with_reducible assumption)|(exact absurd h (by decide)));done))
        all_goals skip
  · clear c_aw
    have c_aw:=c_awake
    refine zen Tryz.func3 rfl Tryz.ntmps3 ?_
    intro w0 E0 hc
    repeat' (first|(with_reducible first|refine Wp_seq ?_|refine zr0 hc ?_|refine zm0 hc ?_|refine zwk ?_|refine Wp_block ?_|refine zgo ?_|refine zbn ?_|refine zge Tryz.results3 ?_|refine Sub.refl _|refine allP_nil|refine zoa1 (out':=?_) ?_|refine zca1 (y:=?_) ?_|refine zea1 (eo':=?_) ?_)|(with_reducible refine allP_cons ?_ ?_;focus (first|decide|omega))|(with_reducible first|refine zg2 ?_ ?_|refine zoc c_aw ?_ ?_|refine zbo ?_|refine zg3 ?_ (fun h=>?_) (fun h=>?_)|refine zg4 (fun h=>?_) (fun h=>?_)|fail)|((first|omega|(refine nf1 ?_;with_reducible assumption)|(refine nf2 ?_;with_reducible assumption));done))
end Go.Proofs
end
