/- Lemmas on the program and its library: part ZR10. -/
import Derived.Test.YtoiejgkkcfkliaaGreatDoorZR5
set_option linter.unusedVariables false
set_option linter.unusedSimpArgs false
section
set_option maxHeartbeats 4000000
set_option maxRecDepth 100000
namespace Go.Proofs
open Go.Ax
theorem r_gcd (x y:Nat) (hx:x≤9223372036854775807) (hy:y≤9223372036854775807):Ax.Pure Tryz.prog G 141 [N x,N y] (N (Nat.gcd x y:Nat)):=by
  refine zen Tryz.func141 rfl Tryz.ntmps141 ?_
  intro w0 E0 hc
  repeat' (first|refine zR1 hc Tryz.results141 ?_|(with_reducible first|exact trivial|refine zan ?_ ?_|refine zim (fun h=>?_)|fail)|(omega;done))
  refine Wp_loopI (α:=Nat×Nat) (fun p=>stOf [(0,N p.1),(1,N p.2)] [] 0)
    (fun p=>Nat.gcd p.1 p.2=Nat.gcd x y) (fun p=>p.2) (x,y) rfl ?_ ?_
  · refine zW2 ?_ <;> repeat' (with_reducible first|exact trivial|refine zan ?_ ?_|refine zal (fun i hi=>?_))
  · rintro ⟨a,b⟩ hg
    dsimp only at hg
    have e1:=tmodN a b
    have S3:0 < (b:Int)→((b:Int)≠0∧true=true):=fun h=>⟨by omega,rfl⟩
    repeat' (first|refine zR1 hc Tryz.results141 ?_|(with_reducible first|exact trivial|refine zan ?_ ?_|refine zim (fun h=>?_)|fail)|((first|omega|(exact S3 (by assumption)));done))
    · have hb0:0 < b:=by omega
      refine ⟨(b,a%b),?_,Nat.mod_lt a hb0,?_⟩
      · rw [←hg]
        show Nat.gcd b (a%b)=_
        rw [Nat.gcd_comm b,←Nat.gcd_rec,Nat.gcd_comm]
      · refine zW2 ?_ <;> repeat' (with_reducible first|exact trivial|refine zan ?_ ?_|refine zal (fun i hi=>?_))
    · obtain rfl:b=0:=by omega
      rw [Nat.gcd_zero_right] at hg
      rw [hg];exact Sub.refl _
theorem r_Of (n d:Int) (hd0:d≠0) (h1:-9223372036854775808≤n) (h2:n≤9223372036854775807) (h3:-9223372036854775808≤d) (h4:d≤9223372036854775807):Ax.Pure Tryz.prog G 26 [N n,N d] (S (bs (ratL (Rat.divInt n d)))):=by
  have ln:rl n≤10000000:=Nat.le_trans (rl_le (k:=3) (by rw [show BR ^ 3=1000000000000000000000000000 by decide];omega)) (by decide)
  have ld:rl d≤10000000:=Nat.le_trans (rl_le (k:=3) (by rw [show BR ^ 3=1000000000000000000000000000 by decide];omega)) (by decide)
  have c_fr:=r_fraction n d hd0 ln ld
  refine zen Tryz.func26 rfl Tryz.ntmps26 ?_
  intro w0 E0 hc
  repeat' (first|(with_reducible first|refine Wp_seq ?_|refine zwk ?_|refine Wp_block ?_|refine zgo ?_|refine zbn ?_|refine zge Tryz.results26 ?_|refine Sub.refl _|refine allP_nil|refine zoa1 (out':=?_) ?_|refine zca1 (y:=?_) ?_|refine zea1 (eo':=?_) ?_)|(with_reducible refine zrs [3] hc ?_ ?_;focus (with_unfolding_all rfl))|(with_reducible refine zrm [3] hc mixed ?_ ?_;focus (with_unfolding_all rfl))|(with_reducible refine allP_cons ?_ ?_;focus (first|decide|omega))|(with_reducible first|refine zg2 ?_ ?_|refine zoc (r_whole _ ?_ ?_) ?_ ?_|refine zoc c_fr ?_ ?_|refine zbo ?_|refine zg3 ?_ (fun h=>?_) (fun h=>?_)|refine zg4 (fun h=>?_) (fun h=>?_)|fail)|(omega;done))
  obtain ⟨N',hN⟩:∃N':Int,N'=if d < 0 then -n else n:=⟨_,rfl⟩
  obtain ⟨p1,p2⟩:=divInt_parts n d hd0
  rw [←hN] at p1
  have hNa:N'.natAbs=n.natAbs:=by rw [hN];split <;> omega
  obtain ⟨g,hg⟩:∃g,g=Nat.gcd n.natAbs d.natAbs:=⟨_,rfl⟩
  rw [←hg] at p1 p2
  have hgp:0 < g:=by rw [hg];exact Nat.gcd_pos_of_pos_right _ (by omega)
  refine Wp_join2 (α:=Unit) (fun _=>stOf [(0,N N'),(1,N (d.natAbs:Nat))] [] 0) (fun _=>True) ?_ ?_
  · repeat' (first|refine zR1 hc Tryz.results26 ?_|(with_reducible first|exact trivial|refine zan ?_ ?_|refine zim (fun h=>?_)|fail)|(omega;done))
    · refine ⟨(),trivial,?_⟩
      rw [if_pos (by assumption)] at hN
      refine zW2 ?_ <;> repeat' (with_reducible first|exact trivial|refine zan ?_ ?_|refine zal (fun i hi=>?_))
    · refine ⟨(),trivial,?_⟩
      rw [if_neg (by assumption)] at hN
      refine zW2 ?_ <;> repeat' (with_reducible first|exact trivial|refine zan ?_ ?_|refine zal (fun i hi=>?_))
  intro _ _
  have emax:∀x:Int,x.natAbs≤4000000000000000000→(if x < IntKind.i64.wrap (0 - x) then IntKind.i64.wrap (0 - x) else x)=(x.natAbs:Nat):=fun x hx=>by
    rw [w64 (x:=0 - x) (by omega) (by omega)];split <;> omega
  have hnb:N'.natAbs≤4000000000000000000:=by omega
  have c_g:Ax.Pure Tryz.prog G 141 [N (if N' < IntKind.i64.wrap (0 - N') then IntKind.i64.wrap (0 - N') else N'),N (d.natAbs:Nat)] (N (g:Nat)):=by
    rw [emax N' hnb,hNa,hg]
    exact r_gcd n.natAbs d.natAbs (by omega) (by omega)
  have S3:(g:Int)≠0∧true=true:=⟨by omega,rfl⟩
  have t1:N'.tdiv (g:Int)=(Rat.divInt n d).num:=by
    rw [p1]
    have e:=Int.natAbs_tdiv N' g
    rw [Int.natAbs_natCast,hNa] at e
    have hs:0≤N'→0≤N'.tdiv (g:Int):=fun h=>Int.tdiv_nonneg h (by omega)
    have hs2:N' < 0→N'.tdiv (g:Int)≤0:=fun h=>by
      have:=Int.tdiv_nonneg (a:=-N') (b:=(g:Int)) (by omega) (by omega)
      rw [Int.neg_tdiv] at this;omega
    have e':(N'.tdiv (g:Int)).natAbs=n.natAbs / g:=e
    generalize n.natAbs / g=k at *
    unfold sgn
    rcases Int.lt_or_le N' 0 with h|h
    · rw [if_pos (by simpa using h)];have:=hs2 h;omega
    · rw [if_neg (by simp;omega)];have:=hs h;omega
  have t2:((d.natAbs:Nat):Int).tdiv (g:Int)=((Rat.divInt n d).den:Nat):=by rw [tdivN,p2]
  have hnn:(Rat.divInt n d).num.natAbs≤4000000000000000000:=by
    rw [p1,sgn_abs];exact Nat.le_trans (Nat.div_le_self _ _) (by omega)
  have hdd:(Rat.divInt n d).den≤4000000000000000000:=by
    rw [p2];exact Nat.le_trans (Nat.div_le_self _ _) (by omega)
  have hdp:0 < (Rat.divInt n d).den:=(Rat.divInt n d).den_pos
  have hrat:ratL (Rat.divInt n d)=if (Rat.divInt n d).den=1 then intL (Rat.divInt n d).num else intL (Rat.divInt n d).num++47 :: Lib.decDigits (Rat.divInt n d).den:=rfl
  clear p1 p2
  generalize (Rat.divInt n d).den=dN at *
  generalize (Rat.divInt n d).num=nN at *
  generalize ratL (Rat.divInt n d)=R at *
  repeat' (first|(with_reducible first|refine Wp_seq ?_|refine zwk ?_|refine Wp_block ?_|refine zgo ?_|refine zbn ?_|refine zge Tryz.results26 ?_|refine Sub.refl _|refine allP_nil|refine zoa1 (out':=?_) ?_|refine zca1 (y:=?_) ?_|refine zea1 (eo':=?_) ?_)|(with_reducible refine zrs [7] hc ?_ ?_;focus (with_unfolding_all rfl))|(with_reducible refine zrm [7] hc mixed ?_ ?_;focus (with_unfolding_all rfl))|(with_reducible refine allP_cons ?_ ?_;focus (first|decide|omega))|(with_reducible first|refine zg2 ?_ ?_|refine zoc c_g ?_ ?_|refine zbo ?_|refine zg3 ?_ (fun h=>?_) (fun h=>?_)|refine zg4 (fun h=>?_) (fun h=>?_)|fail)|((first|omega|exact S3);done))
  refine Wp_weaker (st':=stOf [(0,N nN),(1,N (dN:Nat))] [] 0) ?_ ?_
  · refine zW2 ?_ <;> repeat' (with_reducible first|exact trivial|refine zan ?_ ?_|refine zal (fun i hi=>?_))
  have c_t1:Ax.Pure Tryz.prog G 142 [N (if nN < IntKind.i64.wrap (0 - nN) then IntKind.i64.wrap (0 - nN) else nN),N 1] (S (bs (Lib.decDigits nN.natAbs))):=by
    rw [emax nN hnn,←decPad_one]
    exact r_decimal nN.natAbs 1 (by omega) (by decide) (by decide)
  have c_t2:Ax.Pure Tryz.prog G 142 [N (dN:Nat),N 1] (S (bs (Lib.decDigits dN))):=by
    rw [←decPad_one]
    exact r_decimal dN 1 (by omega) (by decide) (by decide)
  have l1:=dec_len_le (u:=nN.natAbs) (k:=19) (by omega) (by decide)
  have l2:=dec_len_le (u:=dN) (k:=19) (by omega) (by decide)
  have B45:(⟨#[45]⟩:ByteArray).size=1:=rfl
  have B47:(⟨#[47]⟩:ByteArray).size=1:=rfl
  have B0:(⟨#[]⟩:ByteArray).size=0:=rfl
  repeat' (first|refine zR1 hc Tryz.results26 ?_|(with_reducible first|exact trivial|refine zan ?_ ?_|refine zim (fun h=>?_)|refine zoc c_t1 ?_ ?_|refine zoc c_t2 ?_ ?_|fail)|((first|omega|(refine And.intro ?_ rfl;simp only [ByteArray.size_append,bs_size,B45,B47,B0];omega));done))
  · refine sub_eq (congrArg (fun l=>S (bs l)) (a₁:=(([45]++Lib.decDigits nN.natAbs)++ [47])++Lib.decDigits dN) ?_ ▸ by rw [bs_append,bs_append,bs_append])
    rw [hrat,if_neg (by omega),intL,if_pos (by assumption)];simp
  · refine sub_eq (congrArg (fun l=>S (bs l)) (a₁:=[45]++Lib.decDigits nN.natAbs) ?_ ▸ by rw [bs_append])
    rw [hrat,if_pos (by omega),intL,if_pos (by assumption)];simp
  · refine sub_eq (congrArg (fun l=>S (bs l)) (a₁:=(([]++Lib.decDigits nN.natAbs)++ [47])++Lib.decDigits dN) ?_ ▸ by rw [bs_append,bs_append,bs_append])
    rw [hrat,if_neg (by omega),intL,if_neg (by assumption)];simp
  · refine sub_eq (congrArg (fun l=>S (bs l)) (a₁:=[]++Lib.decDigits nN.natAbs) ?_ ▸ by rw [bs_append])
    rw [hrat,if_pos (by omega),intL,if_neg (by assumption)];simp
end Go.Proofs
end
section
set_option maxHeartbeats 4000000
set_option maxRecDepth 100000
namespace Go.Proofs
open Go.Ax
def qk (t:List UInt8):Bool:=decide ((upTo 47 t).length≤9∧t.length - (upTo 47 t).length≤10)
def qden (t:List UInt8):Nat:=if (upTo 47 t).length < t.length then valD (t.drop ((upTo 47 t).length+1)) else 1
theorem head_ne (t:List UInt8) (ha:isD (upTo 47 t)):t.getD 0 0≠45:=by
  cases t with
  | nil=>decide
  | cons b l =>
    rw [List.getD_cons_zero]
    intro e
    subst e
    have:upTo 47 ((45:UInt8) :: l)=45 :: upTo 47 l:=rfl
    rw [this] at ha
    have:=ha 45 (by simp)
    exact absurd this (by decide)
theorem r_quickT (neg:Bool) (t:List UInt8) (ha:isD (upTo 47 t)) (hd:isD (t.drop ((upTo 47 t).length+1))) (hl:t.length≤1000000000):Ax.Pure Tryz.prog G 177 [S (bs (if neg then 45 :: t else t))] (.tup [N (if qk t then (if neg then -(valD (upTo 47 t):Int) else valD (upTo 47 t)) else 0),N (if qk t then (qden t:Int) else 0),Bo' (qk t)]):=by
  have hz:=bs_size (if neg then 45 :: t else t)
  have hz2:(if neg then 45 :: t else t).length=t.length+(if neg=true then 1 else 0):=by cases neg <;> rfl
  rw [hz2] at hz
  have ga:=getD_arr (if neg then 45 :: t else t) 0
  have g0:(((if neg then 45 :: t else t).getD 0 0).toNat:Int)=45↔neg=true:=by
    cases neg
    · exact ⟨fun h=>absurd (UInt8.toNat_inj.1 (Int.ofNat.inj h)) (head_ne t ha),fun h=>by cases h⟩
    · exact ⟨fun _=>rfl,fun _=>by simp⟩
  have hex:neg=true→(bs (if neg then 45 :: t else t)).extract 1 (bs (if neg then 45 :: t else t)).size=bs t:=fun h=>by
    subst h
    rw [bs_extract,bs_size];simp
  have hu:=upTo_len 47 t
  have hs:=bs_size t
  have c_sl:=r_slash t hl
  have hzz:(bs (if neg then 45 :: t else t)).size≤t.length+1:=by rw [hz];split <;> omega
  obtain ⟨a,hA⟩:∃a,a=upTo 47 t:=⟨_,rfl⟩
  have hta:t.take a.length=a:=by
    have:=(upTo_split 47 t).2
    rw [←hA] at this
    rw [this,List.take_left'];rfl
  have hqk:qk t=decide (a.length≤9∧t.length - a.length≤10):=by rw [qk,←hA]
  have hqd:qden t=if a.length < t.length then valD (t.drop (a.length+1)) else 1:=by rw [qden,←hA]
  rw [←hA] at ha hd hu c_sl ⊢
  have e1:(bs t).extract 0 a.length=bs a:=by rw [bs_extract,List.drop_zero,Nat.sub_zero,hta]
  have w1:IntKind.i64.wrap ((a.length:Int)+1)=((a.length+1:Nat):Int):=by rw [IntKind.wrap_i64];omega
  have w2:IntKind.i64.wrap (((bs t).size:Int) - (a.length:Int))=(t.length:Int) - a.length:=by rw [hs,IntKind.wrap_i64];omega
  have e2:(bs t).extract (IntKind.i64.wrap ((a.length:Int)+1)).toNat (bs t).size=bs (t.drop (a.length+1)):=by
    rw [w1,Int.toNat_natCast,bs_extract,hs,List.take_of_length_le]
    rw [List.length_drop];omega
  have c_v1:a.length≤9→Ax.Pure Tryz.prog G 223 [S ((bs t).extract 0 a.length)] (N (valD a)):=fun h=>by
    rw [e1];exact r_value a ha (by omega)
  have c_v2:t.length - a.length≤10→Ax.Pure Tryz.prog G 223 [S ((bs t).extract (IntKind.i64.wrap ((a.length:Int)+1)).toNat (bs t).size)] (N (valD (t.drop (a.length+1)))):=fun h=>by
    rw [e2];exact r_value _ hd (by rw [List.length_drop];omega)
  have hva:a.length≤9→valD a < 1000000000:=fun h=>by
    exact Nat.lt_of_lt_of_le (valD_lt ha) (Nat.pow_le_pow_right (n:=10) (by decide) h)
  have hneg:IntKind.i64.wrap (0 - (valD a:Int))= -(valD a:Int)∨¬a.length≤9:=by
    by_cases h:a.length≤9
    · have:=hva h
      left;rw [IntKind.wrap_i64];omega
    · exact .inr h
  refine zen Tryz.func177 rfl Tryz.ntmps177 ?_
  intro w0 E0 hc
  repeat' (first|(with_reducible first|refine Wp_seq ?_|refine zwk ?_|refine Wp_block ?_|refine zgo ?_|refine zbn ?_|refine zge Tryz.results177 ?_|refine Sub.refl _|refine allP_nil|refine zoa1 (out':=?_) ?_|refine zca1 (y:=?_) ?_|refine zea1 (eo':=?_) ?_)|(with_reducible refine zrs [7] hc ?_ ?_;focus (with_unfolding_all rfl))|(with_reducible refine zrm [7] hc mixed ?_ ?_;focus (with_unfolding_all rfl))|(with_reducible refine allP_cons ?_ ?_;focus (first|decide|omega))|(with_reducible first|refine zg2 ?_ ?_|refine zbo ?_|refine zg3 ?_ (fun h=>?_) (fun h=>?_)|refine zg4 (fun h=>?_) (fun h=>?_)|fail)|(omega;done))
  · have hb:qk t=false:=by rw [hqk];exact decide_eq_false (by omega)
    rw [hb];exact Sub.refl _
  all_goals
    refine Wp_weaker (st':=stOf [(5,S (bs t)),(6,Bo' neg)] [] 0) ?_ ?_
  · have hn:neg=true:=g0.1 (by rw [←ga];assumption)
    refine zW1 ?_ <;> repeat' (with_reducible first|exact trivial|refine zan ?_ ?_|refine zal (fun i hi=>?_))
    · rw [hex hn];exact Sub.refl _
    · refine sub_eq ?_
      rw [hn];exact congrArg Bo' (beq_iff_eq.2 (by rw [hn] at h;exact h))
  rotate_left 1
  · have hn:neg=false:=by
      cases neg
      · rfl
      · exact absurd (g0.2 rfl) (by rw [←ga];assumption)
    refine zW1 ?_ <;> repeat' (with_reducible first|exact trivial|refine zan ?_ ?_|refine zal (fun i hi=>?_))
    · rw [hn];exact Sub.refl _
    · refine sub_eq ?_
      rw [hn];exact congrArg Bo' (beq_eq_false_iff_ne.2 (by rw [hn] at h;exact h))
  rotate_left 1
  · have hn:neg=false:=by
      cases neg
      · rfl
      · exfalso;simp only [if_true] at hz;simp only [if_true] at h;omega
    refine zW1 ?_ <;> repeat' (with_reducible first|exact trivial|refine zan ?_ ?_|refine zal (fun i hi=>?_))
    · rw [hn];exact Sub.refl _
    · rw [hn];exact Sub.refl _
  all_goals
    clear hz hzz
    repeat' (first|(with_reducible first|refine Wp_seq ?_|refine zwk ?_|refine Wp_block ?_|refine zgo ?_|refine zbn ?_|refine zge Tryz.results177 ?_|refine Sub.refl _|refine allP_nil|refine zoa1 (out':=?_) ?_|refine zca1 (y:=?_) ?_|refine zea1 (eo':=?_) ?_)|(with_reducible refine zrs [10] hc ?_ ?_;focus (with_unfolding_all rfl))|(with_reducible refine zrm [10] hc mixed ?_ ?_;focus (with_unfolding_all rfl))|(with_reducible refine allP_cons ?_ ?_;focus (first|decide|omega))|(with_reducible first|refine zg2 ?_ ?_|refine zoc c_sl ?_ ?_|refine zbo ?_|refine zg3 ?_ (fun h=>?_) (fun h=>?_)|refine zg4 (fun h=>?_) (fun h=>?_)|fail)|((first|omega|(simp only [w2];omega));done))
    · rw [w2] at h
      have hb:qk t=false:=by rw [hqk];exact decide_eq_false (by omega)
      rw [hb];exact Sub.refl _
    rotate_left 1
    · have hb:qk t=false:=by rw [hqk];exact decide_eq_false (by omega)
      rw [hb];exact Sub.refl _
    rw [w2] at h
    have k9:a.length≤9:=by omega
    have k10:t.length - a.length≤10:=by omega
    have hb:qk t=true:=by rw [hqk];exact decide_eq_true ⟨k9,k10⟩
    rw [hb,hqd]
    have hng:IntKind.i64.wrap (0 - (valD a:Int))= -(valD a:Int):=hneg.resolve_right fun h=>h k9
    have S2:a.length < t.length→(0≤IntKind.i64.wrap ((a.length:Int)+1)∧IntKind.i64.wrap ((a.length:Int)+1)≤((bs t).size:Nat)∧((bs t).size:Int)≤((bs t).size:Nat)):=fun h=>by rw [w1,hs];omega
    repeat' (first|refine zR1 hc Tryz.results177 ?_|(with_reducible first|exact trivial|refine zan ?_ ?_|refine zim (fun h=>?_)|refine zoc (c_v1 ?_) ?_ ?_|refine zoc (c_v2 ?_) ?_ ?_|fail)|((first|omega|exact S2 (by omega));done))
    all_goals
      rename_i gl
      rw [hs] at gl
      refine sub_eq ?_
      simp only [h,hng,if_true,Bool.false_eq_true,if_false]
      first
        | (rw [if_pos (by omega)])
        | (rw [if_neg (by omega)];rfl)
theorem sign_unsig (s:List UInt8):s=if isNeg s then 45 :: unsig s else unsig s:=by
  unfold isNeg unsig
  by_cases h:s.head?=some 45
  · simp only [h,decide_true,if_true]
    cases s with
    | nil=>cases h
    | cons b l=>simp only [List.head?_cons,Option.some.injEq] at h;rw [h];rfl
  · simp only [h,decide_false,Bool.false_eq_true,if_false]
theorem unsig_ratL (q:Rat):unsig (ratL q)=Lib.decDigits q.num.natAbs++(if q.den=1 then [] else 47 :: Lib.decDigits q.den):=by
  obtain ⟨_,h2,h3⟩:=ratL_parts q
  have h:=(upTo_split 47 (unsig (ratL q))).2
  rw [h2,h3] at h
  rw [h]
  by_cases h1:q.den=1
  · rw [if_pos h1,if_pos h1]
  · rw [if_neg h1,if_neg h1]
theorem r_quick (q:Rat) (hl:(Lib.decDigits q.num.natAbs).length≤100000000) (hd:(Lib.decDigits q.den).length≤100000000):Ax.Pure Tryz.prog G 177 [S (bs (ratL q))] (.tup [N (if qk (unsig (ratL q)) then q.num else 0),N (if qk (unsig (ratL q)) then (q.den:Int) else 0),Bo' (qk (unsig (ratL q)))]):=by
  obtain ⟨p1,p2,_⟩:=ratL_parts q
  have hs:=sign_unsig (ratL q)
  rw [p1] at hs
  have hu:=unsig_ratL q
  have hdr:(unsig (ratL q)).drop ((Lib.decDigits q.num.natAbs).length+1)=if q.den=1 then [] else Lib.decDigits q.den:=by
    rw [hu]
    split
    · simp
    · rw [←List.drop_drop,List.drop_left];rfl
  have hlen:(unsig (ratL q)).length≤1000000000:=by
    rw [hu,List.length_append];split <;> simp only [List.length_nil,List.length_cons] <;> omega
  have h:=r_quickT (decide (q.num < 0)) (unsig (ratL q)) (by rw [p2];exact dec_isD _) (by rw [p2,hdr];split;exact isD_nil;exact dec_isD _) hlen
  have hqd:qden (unsig (ratL q))=q.den:=by
    rw [qden,p2,hdr]
    by_cases h1:q.den=1
    · rw [if_neg,h1];rw [hu,if_pos h1,List.append_nil];omega
    · rw [if_pos,if_neg h1,dec_valD];rw [hu,if_neg h1,List.length_append,List.length_cons];omega
  have hn:(if decide (q.num < 0)=true then -(q.num.natAbs:Int) else (q.num.natAbs:Int))=q.num:=sgn_dec q.num
  rw [←hs,p2,dec_valD,hqd,hn] at h
  exact h
end Go.Proofs
end
section
set_option maxHeartbeats 4000000
set_option maxRecDepth 100000
namespace Go.Proofs
open Go.Ax
theorem qk_small {q:Rat} (h:qk (unsig (ratL q))=true):q.num.natAbs < 1000000000∧q.den < 1000000000:=by
  unfold qk at h
  have h:=of_decide_eq_true h
  rw [(ratL_parts q).2.1,unsig_ratL,List.length_append] at h
  refine ⟨le_dec_len (k:=9) h.1,?_⟩
  by_cases h1:q.den=1
  · omega
  · rw [if_neg h1,List.length_cons] at h
    exact le_dec_len (k:=9) (by omega)
theorem add_divInt (p q:Rat):Rat.divInt (p.num*q.den+q.num*p.den) ((p.den:Int)*q.den)=p+q:=by
  rw [Rat.add_def,Rat.normalize_eq_mkRat,←Int.natCast_mul];rfl
theorem mul_divInt (p q:Rat):Rat.divInt (p.num*q.num) ((p.den:Int)*q.den)=p*q:=by
  rw [Rat.mul_def,Rat.normalize_eq_mkRat,←Int.natCast_mul];rfl
theorem r_Add (p q:Rat) (h1:rl p.num≤1000000) (h2:rl p.den≤1000000) (h3:rl q.num≤1000000) (h4:rl q.den≤1000000):Ax.Pure Tryz.prog G 59 [S (bs (ratL p)),S (bs (ratL q))] (S (bs (ratL (p+q)))):=by
  have d1:=dec_rl p.num.natAbs
  have d2:=dec_rl p.den
  have d3:=dec_rl q.num.natAbs
  have d4:=dec_rl q.den
  unfold rl at h1 h2 h3 h4
  rw [Int.natAbs_natCast] at h2 h4
  have c_qp:=r_quick p (by omega) (by omega)
  have c_qq:=r_quick q (by omega) (by omega)
  have c_pp:=r_parts p (by omega) (by omega)
  have c_pq:=r_parts q (by omega) (by omega)
  have o1:rl p.num≤1000000:=h1
  have o2:rl p.den≤1000000:=by unfold rl;rw [Int.natAbs_natCast];exact h2
  have o3:rl q.num≤1000000:=h3
  have o4:rl q.den≤1000000:=by unfold rl;rw [Int.natAbs_natCast];exact h4
  have m1:=rl_mul p.num q.den
  have m2:=rl_mul q.num p.den
  have m3:=rl_mul p.den q.den
  have m4:=rl_add (p.num*q.den) (q.num*p.den)
  have hdn:(p.den:Int)*q.den≠0:=Int.mul_ne_zero (by have:=p.den_pos;omega) (by have:=q.den_pos;omega)
  have c_fr:=r_fraction (p.num*q.den+q.num*p.den) ((p.den:Int)*q.den) hdn (by omega) (by omega)
  rw [add_divInt] at c_fr
  refine zen Tryz.func59 rfl Tryz.ntmps59 ?_
  intro w0 E0 hc
  cases e1:qk (unsig (ratL p))
  · rw [e1] at c_qp
    repeat' (first|refine zR1 hc Tryz.results59 ?_|(with_reducible first|exact trivial|refine zan ?_ ?_|refine zim (fun h=>?_)|refine zoc c_qp ?_ ?_|refine zoc c_qq ?_ ?_|refine zoc c_pp ?_ ?_|refine zoc c_pq ?_ ?_|refine zoc (r_times _ _ ?_ ?_) ?_ ?_|refine zoc (r_plus _ _ ?_ ?_) ?_ ?_|refine zoc c_fr ?_ ?_|fail)|(omega;done))
  cases e2:qk (unsig (ratL q))
  · rw [e1] at c_qp
    rw [e2] at c_qq
    repeat' (first|refine zR1 hc Tryz.results59 ?_|(with_reducible first|exact trivial|refine zan ?_ ?_|refine zim (fun h=>?_)|refine zoc c_qp ?_ ?_|refine zoc c_qq ?_ ?_|refine zoc c_pp ?_ ?_|refine zoc c_pq ?_ ?_|refine zoc (r_times _ _ ?_ ?_) ?_ ?_|refine zoc (r_plus _ _ ?_ ?_) ?_ ?_|refine zoc c_fr ?_ ?_|fail)|(omega;done))
  rw [e1] at c_qp
  rw [e2] at c_qq
  obtain ⟨s1,s2⟩:=qk_small e1
  obtain ⟨s3,s4⟩:=qk_small e2
  have b1:(p.num*q.den).natAbs≤999999999*999999999:=by rw [Int.natAbs_mul];exact Nat.mul_le_mul (by omega) (by omega)
  have b2:(q.num*p.den).natAbs≤999999999*999999999:=by rw [Int.natAbs_mul];exact Nat.mul_le_mul (by omega) (by omega)
  have b3:((p.den:Int)*q.den).natAbs≤999999999*999999999:=by rw [Int.natAbs_mul];exact Nat.mul_le_mul (by omega) (by omega)
  have c_of:=r_Of (p.num*q.den+q.num*p.den) ((p.den:Int)*q.den) hdn (by omega) (by omega) (by omega) (by omega)
  rw [add_divInt] at c_of
  have w1:IntKind.i64.wrap (p.num*q.den)=p.num*q.den:=w64 (by omega) (by omega)
  have w2:IntKind.i64.wrap (q.num*p.den)=q.num*p.den:=w64 (by omega) (by omega)
  have w3:IntKind.i64.wrap ((p.den:Int)*q.den)=(p.den:Int)*q.den:=w64 (by omega) (by omega)
  have w4:IntKind.i64.wrap (p.num*q.den+q.num*p.den)=p.num*q.den+q.num*p.den:=w64 (by omega) (by omega)
  rw [←w4,←w1,←w2,←w3] at c_of
  simp only [if_true] at c_qp c_qq
  repeat' (first|refine zR1 hc Tryz.results59 ?_|(with_reducible first|exact trivial|refine zan ?_ ?_|refine zim (fun h=>?_)|refine zoc c_qp ?_ ?_|refine zoc c_qq ?_ ?_|refine zoc c_of ?_ ?_|fail)|(omega;done))
theorem r_Mul (p q:Rat) (h1:rl p.num≤1000000) (h2:rl p.den≤1000000) (h3:rl q.num≤1000000) (h4:rl q.den≤1000000):Ax.Pure Tryz.prog G 74 [S (bs (ratL p)),S (bs (ratL q))] (S (bs (ratL (p*q)))):=by
  have d1:=dec_rl p.num.natAbs
  have d2:=dec_rl p.den
  have d3:=dec_rl q.num.natAbs
  have d4:=dec_rl q.den
  unfold rl at h1 h2 h3 h4
  rw [Int.natAbs_natCast] at h2 h4
  have c_qp:=r_quick p (by omega) (by omega)
  have c_qq:=r_quick q (by omega) (by omega)
  have c_pp:=r_parts p (by omega) (by omega)
  have c_pq:=r_parts q (by omega) (by omega)
  have o1:rl p.num≤1000000:=h1
  have o2:rl p.den≤1000000:=by unfold rl;rw [Int.natAbs_natCast];exact h2
  have o3:rl q.num≤1000000:=h3
  have o4:rl q.den≤1000000:=by unfold rl;rw [Int.natAbs_natCast];exact h4
  have m1:=rl_mul p.num q.num
  have m3:=rl_mul p.den q.den
  have hdn:(p.den:Int)*q.den≠0:=Int.mul_ne_zero (by have:=p.den_pos;omega) (by have:=q.den_pos;omega)
  have c_fr:=r_fraction (p.num*q.num) ((p.den:Int)*q.den) hdn (by omega) (by omega)
  rw [mul_divInt] at c_fr
  refine zen Tryz.func74 rfl Tryz.ntmps74 ?_
  intro w0 E0 hc
  cases e1:qk (unsig (ratL p))
  · rw [e1] at c_qp
    repeat' (first|refine zR1 hc Tryz.results74 ?_|(with_reducible first|exact trivial|refine zan ?_ ?_|refine zim (fun h=>?_)|refine zoc c_qp ?_ ?_|refine zoc c_qq ?_ ?_|refine zoc c_pp ?_ ?_|refine zoc c_pq ?_ ?_|refine zoc (r_times _ _ ?_ ?_) ?_ ?_|refine zoc c_fr ?_ ?_|fail)|(omega;done))
  cases e2:qk (unsig (ratL q))
  · rw [e1] at c_qp
    rw [e2] at c_qq
    repeat' (first|refine zR1 hc Tryz.results74 ?_|(with_reducible first|exact trivial|refine zan ?_ ?_|refine zim (fun h=>?_)|refine zoc c_qp ?_ ?_|refine zoc c_qq ?_ ?_|refine zoc c_pp ?_ ?_|refine zoc c_pq ?_ ?_|refine zoc (r_times _ _ ?_ ?_) ?_ ?_|refine zoc c_fr ?_ ?_|fail)|(omega;done))
  rw [e1] at c_qp
  rw [e2] at c_qq
  obtain ⟨s1,s2⟩:=qk_small e1
  obtain ⟨s3,s4⟩:=qk_small e2
  have b1:(p.num*q.num).natAbs≤999999999*999999999:=by rw [Int.natAbs_mul];exact Nat.mul_le_mul (by omega) (by omega)
  have b3:((p.den:Int)*q.den).natAbs≤999999999*999999999:=by rw [Int.natAbs_mul];exact Nat.mul_le_mul (by omega) (by omega)
  have c_of:=r_Of (p.num*q.num) ((p.den:Int)*q.den) hdn (by omega) (by omega) (by omega) (by omega)
  rw [mul_divInt] at c_of
  have w3:IntKind.i64.wrap ((p.den:Int)*q.den)=(p.den:Int)*q.den:=w64 (by omega) (by omega)
  have w4:IntKind.i64.wrap (p.num*q.num)=p.num*q.num:=w64 (by omega) (by omega)
  rw [←w4,←w3] at c_of
  simp only [if_true] at c_qp c_qq
  repeat' (first|refine zR1 hc Tryz.results74 ?_|(with_reducible first|exact trivial|refine zan ?_ ?_|refine zim (fun h=>?_)|refine zoc c_qp ?_ ?_|refine zoc c_qq ?_ ?_|refine zoc c_of ?_ ?_|fail)|(omega;done))
end Go.Proofs
end
section
set_option maxHeartbeats 4000000
set_option maxRecDepth 100000
namespace Go.Proofs
open Go.Ax
theorem ratL_zero:ratL 0= [48]:=by
  unfold ratL intL
  rw [if_pos (by rfl),if_neg (by decide)]
  exact dec_zero
theorem ratL_eq_zero (q:Rat):((bs (ratL q)).toList == (⟨#[48]⟩:ByteArray).toList)=true↔q=0:=by
  rw [ByteArray.toList_eq,ByteArray.toList_eq,beq_iff_eq]
  constructor
  · intro h
    refine ratL_inj ?_
    rw [ratL_zero]
    simpa using h
  · intro h;rw [h,ratL_zero]
theorem ratL_at (q:Rat):(((ratL q).getD 0 0).toNat:Int)=45↔q.num < 0:=by
  have hs:=sign_unsig (ratL q)
  rw [(ratL_parts q).1] at hs
  have hh:=head_ne (unsig (ratL q)) (by rw [(ratL_parts q).2.1];exact dec_isD _)
  rw [hs]
  by_cases h:q.num < 0
  · simp only [h,decide_true,if_true];exact ⟨fun _=>trivial,fun _=>rfl⟩
  · simp only [h,decide_false,Bool.false_eq_true,if_false,iff_false]
    exact fun e=>hh (UInt8.toNat_inj.1 (Int.ofNat.inj e))
def sgQ (q:Rat):Int:=if q=0 then 0 else if q.num < 0 then -1 else 1
theorem r_Sign (q:Rat):Ax.Pure Tryz.prog G 165 [S (bs (ratL q))] (N (sgQ q)):=by
  have h0:=ratL_eq_zero q
  have h1:=ratL_at q
  have ga:=getD_arr (ratL q) 0
  have hs:=bs_size (ratL q)
  refine zen Tryz.func165 rfl Tryz.ntmps165 ?_
  intro w0 E0 hc
  repeat' (first|refine zR1 hc Tryz.results165 ?_|(with_reducible first|exact trivial|refine zan ?_ ?_|refine zim (fun h=>?_)|fail)|(omega;done))
  · refine sub_eq ?_
    rw [sgQ,if_pos (h0.1 h)]
  · rename_i g1 g2
    rw [ga] at h
    refine sub_eq ?_
    rw [sgQ,if_neg (fun e=>by rw [h0.2 e] at g1;cases g1),if_pos (h1.1 h)]
  · rename_i g1 g2
    rw [ga] at h
    refine sub_eq ?_
    rw [sgQ,if_neg (fun e=>by rw [h0.2 e] at g1;cases g1),if_neg (fun e=>h (h1.2 e))]
  · rename_i g2
    have hl:(ratL q).length=0:=by omega
    have e:ratL q= []:=List.length_eq_zero_iff.1 hl
    refine sub_eq ?_
    rw [sgQ,if_neg (fun e=>by rw [h0.2 e] at g2;cases g2),if_neg]
    intro e2
    have:=h1.2 e2
    rw [e] at this
    exact absurd this (by decide)
end Go.Proofs
end
section
set_option maxHeartbeats 4000000
set_option maxRecDepth 100000
namespace Go.Proofs
open Go.Ax
theorem rl_two {z:Int} {k:Nat} (h:z.natAbs < 2 ^ k):rl z≤k:=rl_le (Nat.lt_of_lt_of_le h (Nat.pow_le_pow_left (by decide) k))
theorem Q_rl {k:Nat} {q:Rat} (h:Q k q):rl q.num≤k∧rl (q.den:Int)≤k:=⟨rl_two h.1,rl_two (by simpa using h.2)⟩
theorem Q_dl {k:Nat} {q:Rat} (h:Q k q):(Lib.decDigits q.num.natAbs).length≤9*k+1∧(Lib.decDigits q.den).length≤9*k+1:=by
  have h1:=Q_rl h
  have h2:=dec_rl q.num.natAbs
  have h3:=dec_rl q.den
  unfold rl at h1
  rw [Int.natAbs_natCast] at h1
  omega
theorem Q_ll {k:Nat} {q:Rat} (h:Q k q):(ratL q).length≤18*k+4:=by
  obtain ⟨h1,h2⟩:=Q_dl h
  have h3:=sign_unsig (ratL q)
  have h4:=unsig_ratL q
  have h5:(ratL q).length≤(unsig (ratL q)).length+1:=by
    have:(ratL q).length=(if isNeg (ratL q) then 45 :: unsig (ratL q) else unsig (ratL q)).length:=by rw [←h3]
    rw [this]
    split
    · exact Nat.le_of_eq (List.length_cons)
    · omega
  rw [h4,List.length_append] at h5
  split at h5
  · simp only [List.length_nil] at h5;omega
  · rw [List.length_cons] at h5;omega
theorem up_ratL (q:Rat):upTo 47 (ratL q)=intL q.num:=by
  unfold ratL
  split
  · exact (upTo_miss (slash_not_int _)).1
  · exact (upTo_hit (slash_not_int _)).1
theorem ratL_int (z:Int):ratL (z:Rat)=intL z:=by
  unfold ratL
  rw [Rat.den_intCast,if_pos rfl,Rat.num_intCast]
theorem ratL_minus {q:Rat} (h:q.num < 0):ratL q=45 :: ratL (-q):=by
  have h1:=sign_unsig (ratL q)
  have h2:=sign_unsig (ratL (-q))
  rw [(ratL_parts q).1,decide_eq_true h,if_pos rfl,unsig_ratL] at h1
  rw [(ratL_parts (-q)).1,Rat.neg_num,decide_eq_false (by omega),if_neg (by decide),unsig_ratL,Rat.neg_num,Rat.neg_den,Int.natAbs_neg] at h2
  rw [h1,h2]
theorem sgQ_neg {q:Rat}:sgQ q < 0↔q.num < 0:=by
  unfold sgQ
  split
  · rename_i h;subst h;exact ⟨fun h=>absurd h (by decide),fun h=>absurd h (by decide)⟩
  · split <;> omega
theorem sgQ_zero {q:Rat}:sgQ q=0↔q=0:=by
  unfold sgQ
  split
  · exact ⟨fun _=>by assumption,fun _=>rfl⟩
  · split <;> exact ⟨fun h=>absurd h (by decide),fun h=>absurd h (by assumption)⟩
theorem take_up (c:UInt8) (l:List UInt8):l.take (upTo c l).length=upTo c l:=by
  have h:=(upTo_split c l).2
  have g:∀(a b:List UInt8),l=a++b→l.take a.length=a:=fun a b e=>by rw [e,List.take_left'];rfl
  exact g _ _ h
theorem cut1 (x:UInt8) (l:List UInt8):(bs (x :: l)).extract 1 (bs (x :: l)).size=bs l:=by
  rw [bs_extract,bs_size];simp
theorem r_Neg (q:Rat) {k:Nat} (hq:Q k q) (hk:k≤1000000):Ax.Pure Tryz.prog G 73 [S (bs (ratL q))] (S (bs (ratL (-q)))):=by
  have c_s:=r_Sign q
  have hl:=Q_ll hq
  have hs:=bs_size (ratL q)
  have hn:=@sgQ_neg q
  have hz:=@sgQ_zero q
  have he:sgQ q < 0→(bs (ratL q)).extract 1 (bs (ratL q)).size=bs (ratL (-q)):=fun h=>by rw [ratL_minus (hn.1 h),cut1]
  have h1:sgQ q < 0→1≤(bs (ratL q)).size:=fun h=>by rw [hs,ratL_minus (hn.1 h)];simp
  have h0:sgQ q=0→ratL q=ratL (-q):=fun h=>by rw [hz.1 h];rfl
  have hp:¬sgQ q < 0→sgQ q≠0→(⟨#[45]⟩:ByteArray)++bs (ratL q)=bs (ratL (-q)):=fun h g=>by
    have:(-q).num < 0:=by
      rw [Rat.neg_num]
      have h2:¬q.num < 0:=fun h'=>h (hn.2 h')
      have h3:q.num≠0:=fun h'=>g (hz.2 (Rat.num_eq_zero.1 h'))
      omega
    rw [ratL_minus this,Rat.neg_neg]
    exact bs_append [45] _
  have hz1:(⟨#[45]⟩:ByteArray).size+(bs (ratL q)).size≤9223372036854775807∧true=true:=⟨by rw [hs,show (⟨#[45]⟩:ByteArray).size=1 from rfl];omega,rfl⟩
  generalize sgQ q=s at *
  refine zen Tryz.func73 rfl Tryz.ntmps73 ?_
  intro w0 E0 hc
  repeat' (first|refine zR1 hc Tryz.results73 ?_|(with_reducible first|exact trivial|refine zan ?_ ?_|refine zim (fun h=>?_)|refine zoc c_s ?_ ?_|fail)|((first|omega|(have:=h1 (by assumption);omega)|exact hz1);done))
  · exact sub_eq (congrArg S (he (by assumption)))
  · exact sub_eq (congrArg (fun l=>S (bs l)) (h0 (by assumption)))
  · exact sub_eq (congrArg S (hp (by assumption) (by assumption)))
theorem r_Num (q:Rat) {k:Nat} (hq:Q k q) (hk:k≤1000000):Ax.Pure Tryz.prog G 196 [S (bs (ratL q))] (S (bs (intL q.num))):=by
  have hl:=Q_ll hq
  have c_sl:=r_slash (ratL q) (by omega)
  have hu:=upTo_len 47 (ratL q)
  have he:(bs (ratL q)).extract 0 (upTo 47 (ratL q)).length=bs (intL q.num):=by
    rw [bs_extract,List.drop_zero,Nat.sub_zero,take_up,up_ratL]
  have hs:=bs_size (ratL q)
  generalize (upTo 47 (ratL q)).length=m at *
  refine zen Tryz.func196 rfl Tryz.ntmps196 ?_
  intro w0 E0 hc
  repeat' (first|refine zR1 hc Tryz.results196 ?_|(with_reducible first|exact trivial|refine zan ?_ ?_|refine zim (fun h=>?_)|refine zoc c_sl ?_ ?_|fail)|(omega;done))
  all_goals exact sub_eq (congrArg S he)
theorem r_IsZero (q:Rat):Ax.Pure Tryz.prog G 107 [S (bs (ratL q))] (Bo (decide (q=0))):=by
  have h:=ratL_eq_zero q
  refine zen Tryz.func107 rfl Tryz.ntmps107 ?_
  intro w0 E0 hc
  repeat' (first|refine zR1 hc Tryz.results107 ?_|(with_reducible first|exact trivial|refine zan ?_ ?_|refine zim (fun h=>?_)|fail)|(omega;done))
  all_goals exact sub_eq (congrArg Bo (Bool.eq_iff_iff.2 (h.trans (by simp))))
theorem r_Reciprocal (q:Rat) (h0:q≠0) {k:Nat} (hq:Q k q) (hk:k≤1000000):Ax.Pure Tryz.prog G 191 [S (bs (ratL q))] (S (bs (ratL q⁻¹))):=by
  have hd:=Q_dl hq
  have hr:=Q_rl hq
  have hn:q.num≠0:=fun h=>h0 (Rat.num_eq_zero.1 h)
  have c_p:=r_parts q (by omega) (by omega)
  have c_f:=r_fraction q.den q.num hn (by omega) (by omega)
  rw [show Rat.divInt q.den q.num=q⁻¹ from (Rat.inv_def q).symm] at c_f
  refine zen Tryz.func191 rfl Tryz.ntmps191 ?_
  intro w0 E0 hc
  repeat' (first|refine zR1 hc Tryz.results191 ?_|(with_reducible first|exact trivial|refine zan ?_ ?_|refine zim (fun h=>?_)|refine zoc c_p ?_ ?_|refine zoc c_f ?_ ?_|fail)|(omega;done))
theorem r_AddQ (p q:Rat) {k:Nat} (hp:Q k p) (hq:Q k q) (hk:k≤1000000):Ax.Pure Tryz.prog G 59 [S (bs (ratL p)),S (bs (ratL q))] (S (bs (ratL (p+q)))):=by
  have h1:=Q_rl hp
  have h2:=Q_rl hq
  exact r_Add p q (by omega) (by omega) (by omega) (by omega)
theorem r_MulQ (p q:Rat) {k:Nat} (hp:Q k p) (hq:Q k q) (hk:k≤1000000):Ax.Pure Tryz.prog G 74 [S (bs (ratL p)),S (bs (ratL q))] (S (bs (ratL (p*q)))):=by
  have h1:=Q_rl hp
  have h2:=Q_rl hq
  exact r_Mul p q (by omega) (by omega) (by omega) (by omega)
theorem r_Sub (p q:Rat) {k:Nat} (hp:Q k p) (hq:Q k q) (hk:k≤1000000):Ax.Pure Tryz.prog G 105 [S (bs (ratL p)),S (bs (ratL q))] (S (bs (ratL (p - q)))):=by
  have c_n:=r_Neg q hq hk
  have c_a:=r_AddQ p (-q) hp (Q_neg hq) hk
  rw [←Rat.sub_eq_add_neg] at c_a
  refine zen Tryz.func105 rfl Tryz.ntmps105 ?_
  intro w0 E0 hc
  repeat' (first|refine zR1 hc Tryz.results105 ?_|(with_reducible first|exact trivial|refine zan ?_ ?_|refine zim (fun h=>?_)|refine zoc c_n ?_ ?_|refine zoc c_a ?_ ?_|fail)|(omega;done))
theorem r_Div (p q:Rat) (h0:q≠0) {k:Nat} (hp:Q k p) (hq:Q k q) (hk:k≤1000000):Ax.Pure Tryz.prog G 108 [S (bs (ratL p)),S (bs (ratL q))] (S (bs (ratL (p / q)))):=by
  have c_n:=r_Reciprocal q h0 hq hk
  have c_a:=r_MulQ p q⁻¹ hp (Q_inv hq) hk
  rw [←Rat.div_def] at c_a
  refine zen Tryz.func108 rfl Tryz.ntmps108 ?_
  intro w0 E0 hc
  repeat' (first|refine zR1 hc Tryz.results108 ?_|(with_reducible first|exact trivial|refine zan ?_ ?_|refine zim (fun h=>?_)|refine zoc c_n ?_ ?_|refine zoc c_a ?_ ?_|fail)|(omega;done))
theorem r_Cmp (p q:Rat) {k:Nat} (hp:Q k p) (hq:Q k q) (hk:k≤1000000):Ax.Pure Tryz.prog G 106 [S (bs (ratL p)),S (bs (ratL q))] (N (sgQ (p - q))):=by
  have c_n:=r_Sub p q hp hq hk
  have c_a:=r_Sign (p - q)
  refine zen Tryz.func106 rfl Tryz.ntmps106 ?_
  intro w0 E0 hc
  repeat' (first|refine zR1 hc Tryz.results106 ?_|(with_reducible first|exact trivial|refine zan ?_ ?_|refine zim (fun h=>?_)|refine zoc c_n ?_ ?_|refine zoc c_a ?_ ?_|fail)|(omega;done))
end Go.Proofs
end
