/- Lemmas on the program and its library: part ZR10. -/
import Derived.Test.YtoiejgkkcfkliaaGreatDoorZR5
set_option linter.unusedVariables false
set_option linter.unusedSimpArgs false
section
set_option maxHeartbeats 4000000
set_option maxRecDepth 100000
namespace Go.Proofs
open Go.Ax
theorem r_gcd (x y:Nat) (hx:x≤9223372036854775807) (hy:y≤9223372036854775807):Ax.Pure Tryz.prog G 141 [N x,N y] (N (Nat.gcd x y:Nat)):=by
  refine r8 Tryz.func141 rfl Tryz.ntmps141 ?_
  intro w0 E0 hc
  repeat' (first|refine n7 hc Tryz.results141 ?_|(with_reducible first|exact trivial|refine j3 ?_ ?_|refine m8 (fun h=>?_)|fail)|(omega;done))
  refine m9 (α:=Nat×Nat) (fun p=>n5 [(0,N p.1),(1,N p.2)] [] 0)
    (fun p=>Nat.gcd p.1 p.2=Nat.gcd x y) (fun p=>p.2) (x,y) rfl ?_ ?_
  · refine zW2 ?_ <;> repeat' (with_reducible first|exact trivial|refine j3 ?_ ?_|refine t7 (fun i hi=>?_))
  · rintro ⟨a,b⟩ hg
    dsimp only at hg
    have e1:=c2n a b
    have S3:0 < (b:Int)→((b:Int)≠0∧true=true):=fun h=>⟨by omega,rfl⟩
    repeat' (first|refine n7 hc Tryz.results141 ?_|(with_reducible first|exact trivial|refine j3 ?_ ?_|refine m8 (fun h=>?_)|fail)|((first|omega|(exact S3 (by assumption)));done))
    · have hb0:0 < b:=by omega
      refine ⟨(b,a%b),?_,Nat.mod_lt a hb0,?_⟩
      · rw [←hg]
        show Nat.gcd b (a%b)=_
        rw [Nat.gcd_comm b,←Nat.gcd_rec,Nat.gcd_comm]
      · refine zW2 ?_ <;> repeat' (with_reducible first|exact trivial|refine j3 ?_ ?_|refine t7 (fun i hi=>?_))
    · obtain rfl:b=0:=by omega
      rw [Nat.gcd_zero_right] at hg
      rw [hg];exact Sub.refl _
theorem r_Of (n d:Int) (hd0:d≠0) (h1:-9223372036854775808≤n) (h2:n≤9223372036854775807) (h3:-9223372036854775808≤d) (h4:d≤9223372036854775807):Ax.Pure Tryz.prog G 26 [N n,N d] (S (bs (c5 (Rat.divInt n d)))):=by
  have ln:rl n≤10000000:=Nat.le_trans (b99 (k:=3) (by rw [show BR ^ 3=1000000000000000000000000000 by decide];omega)) (by decide)
  have ld:rl d≤10000000:=Nat.le_trans (b99 (k:=3) (by rw [show BR ^ 3=1000000000000000000000000000 by decide];omega)) (by decide)
  have c_fr:=b0g n d hd0 ln ld
  refine r8 Tryz.func26 rfl Tryz.ntmps26 ?_
  intro w0 E0 hc
  repeat' (first|(with_reducible first|refine j0 ?_|refine zwk ?_|refine i6 ?_|refine zgo ?_|refine zbn ?_|refine zge Tryz.results26 ?_|refine Sub.refl _|refine f9|refine w6 (out':=?_) ?_|refine u9 (y:=?_) ?_|refine w5 (eo':=?_) ?_)|(with_reducible refine zrs [3] hc ?_ ?_;focus (with_unfolding_all rfl))|(with_reducible refine zrm [3] hc mixed ?_ ?_;focus (with_unfolding_all rfl))|(with_reducible refine f6 ?_ ?_;focus (first|decide|omega))|(with_reducible first|refine zg2 ?_ ?_|refine c9 (c4k _ ?_ ?_) ?_ ?_|refine c9 c_fr ?_ ?_|refine zbo ?_|refine zg3 ?_ (fun h=>?_) (fun h=>?_)|refine zg4 (fun h=>?_) (fun h=>?_)|fail)|(omega;done))
  obtain ⟨N',hN⟩:∃N':Int,N'=if d < 0 then -n else n:=⟨_,rfl⟩
  obtain ⟨p1,p2⟩:=b4x n d hd0
  rw [←hN] at p1
  have hNa:N'.natAbs=n.natAbs:=by rw [hN];split <;> omega
  obtain ⟨g,hg⟩:∃g,g=Nat.gcd n.natAbs d.natAbs:=⟨_,rfl⟩
  rw [←hg] at p1 p2
  have hgp:0 < g:=by rw [hg];exact Nat.gcd_pos_of_pos_right _ (by omega)
  refine b84 (α:=Unit) (fun _=>n5 [(0,N N'),(1,N (d.natAbs:Nat))] [] 0) (fun _=>True) ?_ ?_
  · repeat' (first|refine n7 hc Tryz.results26 ?_|(with_reducible first|exact trivial|refine j3 ?_ ?_|refine m8 (fun h=>?_)|fail)|(omega;done))
    · refine ⟨(),trivial,?_⟩
      rw [if_pos (by assumption)] at hN
      refine zW2 ?_ <;> repeat' (with_reducible first|exact trivial|refine j3 ?_ ?_|refine t7 (fun i hi=>?_))
    · refine ⟨(),trivial,?_⟩
      rw [if_neg (by assumption)] at hN
      refine zW2 ?_ <;> repeat' (with_reducible first|exact trivial|refine j3 ?_ ?_|refine t7 (fun i hi=>?_))
  intro _ _
  have emax:∀x:Int,x.natAbs≤4000000000000000000→(if x < IntKind.i64.wrap (0 - x) then IntKind.i64.wrap (0 - x) else x)=(x.natAbs:Nat):=fun x hx=>by
    rw [w64 (x:=0 - x) (by omega) (by omega)];split <;> omega
  have hnb:N'.natAbs≤4000000000000000000:=by omega
  have c_g:Ax.Pure Tryz.prog G 141 [N (if N' < IntKind.i64.wrap (0 - N') then IntKind.i64.wrap (0 - N') else N'),N (d.natAbs:Nat)] (N (g:Nat)):=by
    rw [emax N' hnb,hNa,hg]
    exact r_gcd n.natAbs d.natAbs (by omega) (by omega)
  have S3:(g:Int)≠0∧true=true:=⟨by omega,rfl⟩
  have t1:N'.tdiv (g:Int)=(Rat.divInt n d).num:=by
    rw [p1]
    have e:=Int.natAbs_tdiv N' g
    rw [Int.natAbs_natCast,hNa] at e
    have hs:0≤N'→0≤N'.tdiv (g:Int):=fun h=>Int.tdiv_nonneg h (by omega)
    have hs2:N' < 0→N'.tdiv (g:Int)≤0:=fun h=>by
      have:=Int.tdiv_nonneg (a:=-N') (b:=(g:Int)) (by omega) (by omega)
      rw [Int.neg_tdiv] at this;omega
    have e':(N'.tdiv (g:Int)).natAbs=n.natAbs / g:=e
    generalize n.natAbs / g=k at *
    unfold sgn
    rcases Int.lt_or_le N' 0 with h|h
    · rw [if_pos (by simpa using h)];have:=hs2 h;omega
    · rw [if_neg (by simp;omega)];have:=hs h;omega
  have t2:((d.natAbs:Nat):Int).tdiv (g:Int)=((Rat.divInt n d).den:Nat):=by rw [b78,p2]
  have hnn:(Rat.divInt n d).num.natAbs≤4000000000000000000:=by
    rw [p1,b8x];exact Nat.le_trans (Nat.div_le_self _ _) (by omega)
  have hdd:(Rat.divInt n d).den≤4000000000000000000:=by
    rw [p2];exact Nat.le_trans (Nat.div_le_self _ _) (by omega)
  have hdp:0 < (Rat.divInt n d).den:=(Rat.divInt n d).den_pos
  have hrat:c5 (Rat.divInt n d)=if (Rat.divInt n d).den=1 then r6 (Rat.divInt n d).num else r6 (Rat.divInt n d).num++47 :: Lib.decDigits (Rat.divInt n d).den:=rfl
  clear p1 p2
  generalize (Rat.divInt n d).den=dN at *
  generalize (Rat.divInt n d).num=nN at *
  generalize c5 (Rat.divInt n d)=R at *
  repeat' (first|(with_reducible first|refine j0 ?_|refine zwk ?_|refine i6 ?_|refine zgo ?_|refine zbn ?_|refine zge Tryz.results26 ?_|refine Sub.refl _|refine f9|refine w6 (out':=?_) ?_|refine u9 (y:=?_) ?_|refine w5 (eo':=?_) ?_)|(with_reducible refine zrs [7] hc ?_ ?_;focus (with_unfolding_all rfl))|(with_reducible refine zrm [7] hc mixed ?_ ?_;focus (with_unfolding_all rfl))|(with_reducible refine f6 ?_ ?_;focus (first|decide|omega))|(with_reducible first|refine zg2 ?_ ?_|refine c9 c_g ?_ ?_|refine zbo ?_|refine zg3 ?_ (fun h=>?_) (fun h=>?_)|refine zg4 (fun h=>?_) (fun h=>?_)|fail)|((first|omega|exact S3);done))
  refine m7 (st':=n5 [(0,N nN),(1,N (dN:Nat))] [] 0) ?_ ?_
  · refine zW2 ?_ <;> repeat' (with_reducible first|exact trivial|refine j3 ?_ ?_|refine t7 (fun i hi=>?_))
  have c_t1:Ax.Pure Tryz.prog G 142 [N (if nN < IntKind.i64.wrap (0 - nN) then IntKind.i64.wrap (0 - nN) else nN),N 1] (S (bs (Lib.decDigits nN.natAbs))):=by
    rw [emax nN hnn,←b3t]
    exact b2g nN.natAbs 1 (by omega) (by decide) (by decide)
  have c_t2:Ax.Pure Tryz.prog G 142 [N (dN:Nat),N 1] (S (bs (Lib.decDigits dN))):=by
    rw [←b3t]
    exact b2g dN 1 (by omega) (by decide) (by decide)
  have l1:=a0p (u:=nN.natAbs) (k:=19) (by omega) (by decide)
  have l2:=a0p (u:=dN) (k:=19) (by omega) (by decide)
  have B45:(⟨#[45]⟩:ByteArray).size=1:=rfl
  have B47:(⟨#[47]⟩:ByteArray).size=1:=rfl
  have B0:(⟨#[]⟩:ByteArray).size=0:=rfl
  repeat' (first|refine n7 hc Tryz.results26 ?_|(with_reducible first|exact trivial|refine j3 ?_ ?_|refine m8 (fun h=>?_)|refine c9 c_t1 ?_ ?_|refine c9 c_t2 ?_ ?_|fail)|((first|omega|(refine And.intro ?_ rfl;simp only [ByteArray.size_append,m6,B45,B47,B0];omega));done))
  · refine j6 (congrArg (fun l=>S (bs l)) (a₁:=(([45]++Lib.decDigits nN.natAbs)++ [47])++Lib.decDigits dN) ?_ ▸ by rw [a1c,a1c,a1c])
    rw [hrat,if_neg (by omega),r6,if_pos (by assumption)];simp
  · refine j6 (congrArg (fun l=>S (bs l)) (a₁:=[45]++Lib.decDigits nN.natAbs) ?_ ▸ by rw [a1c])
    rw [hrat,if_pos (by omega),r6,if_pos (by assumption)];simp
  · refine j6 (congrArg (fun l=>S (bs l)) (a₁:=(([]++Lib.decDigits nN.natAbs)++ [47])++Lib.decDigits dN) ?_ ▸ by rw [a1c,a1c,a1c])
    rw [hrat,if_neg (by omega),r6,if_neg (by assumption)];simp
  · refine j6 (congrArg (fun l=>S (bs l)) (a₁:=[]++Lib.decDigits nN.natAbs) ?_ ▸ by rw [a1c])
    rw [hrat,if_pos (by omega),r6,if_neg (by assumption)];simp
end Go.Proofs
end
section
set_option maxHeartbeats 4000000
set_option maxRecDepth 100000
namespace Go.Proofs
open Go.Ax
def qk (t:List UInt8):Bool:=decide ((a1q 47 t).length≤9∧t.length - (a1q 47 t).length≤10)
def d6k (t:List UInt8):Nat:=if (a1q 47 t).length < t.length then n6 (t.drop ((a1q 47 t).length+1)) else 1
theorem d0n (t:List UInt8) (ha:isD (a1q 47 t)):t.getD 0 0≠45:=by
  cases t with
  | nil=>decide
  | cons b l =>
    rw [List.getD_cons_zero]
    intro e
    subst e
    have:a1q 47 ((45:UInt8) :: l)=45 :: a1q 47 l:=rfl
    rw [this] at ha
    have:=ha 45 (by simp)
    exact absurd this (by decide)
theorem d6p (neg:Bool) (t:List UInt8) (ha:isD (a1q 47 t)) (hd:isD (t.drop ((a1q 47 t).length+1))) (hl:t.length≤1000000000):Ax.Pure Tryz.prog G 177 [S (bs (if neg then 45 :: t else t))] (.tup [N (if qk t then (if neg then -(n6 (a1q 47 t):Int) else n6 (a1q 47 t)) else 0),N (if qk t then (d6k t:Int) else 0),Bo' (qk t)]):=by
  have hz:=m6 (if neg then 45 :: t else t)
  have hz2:(if neg then 45 :: t else t).length=t.length+(if neg=true then 1 else 0):=by cases neg <;> rfl
  rw [hz2] at hz
  have ga:=b1d (if neg then 45 :: t else t) 0
  have g0:(((if neg then 45 :: t else t).getD 0 0).toNat:Int)=45↔neg=true:=by
    cases neg
    · exact ⟨fun h=>absurd (UInt8.toNat_inj.1 (Int.ofNat.inj h)) (d0n t ha),fun h=>by cases h⟩
    · exact ⟨fun _=>rfl,fun _=>by simp⟩
  have hex:neg=true→(bs (if neg then 45 :: t else t)).extract 1 (bs (if neg then 45 :: t else t)).size=bs t:=fun h=>by
    subst h
    rw [a0k,m6];simp
  have hu:=c0u 47 t
  have hs:=m6 t
  have c_sl:=a7t t hl
  have hzz:(bs (if neg then 45 :: t else t)).size≤t.length+1:=by rw [hz];split <;> omega
  obtain ⟨a,hA⟩:∃a,a=a1q 47 t:=⟨_,rfl⟩
  have hta:t.take a.length=a:=by
    have:=(a5i 47 t).2
    rw [←hA] at this
    rw [this,List.take_left'];rfl
  have hqk:qk t=decide (a.length≤9∧t.length - a.length≤10):=by rw [qk,←hA]
  have hqd:d6k t=if a.length < t.length then n6 (t.drop (a.length+1)) else 1:=by rw [d6k,←hA]
  rw [←hA] at ha hd hu c_sl ⊢
  have e1:(bs t).extract 0 a.length=bs a:=by rw [a0k,List.drop_zero,Nat.sub_zero,hta]
  have w1:IntKind.i64.wrap ((a.length:Int)+1)=((a.length+1:Nat):Int):=by rw [IntKind.wrap_i64];omega
  have w2:IntKind.i64.wrap (((bs t).size:Int) - (a.length:Int))=(t.length:Int) - a.length:=by rw [hs,IntKind.wrap_i64];omega
  have e2:(bs t).extract (IntKind.i64.wrap ((a.length:Int)+1)).toNat (bs t).size=bs (t.drop (a.length+1)):=by
    rw [w1,Int.toNat_natCast,a0k,hs,List.take_of_length_le]
    rw [List.length_drop];omega
  have c_v1:a.length≤9→Ax.Pure Tryz.prog G 223 [S ((bs t).extract 0 a.length)] (N (n6 a)):=fun h=>by
    rw [e1];exact b8s a ha (by omega)
  have c_v2:t.length - a.length≤10→Ax.Pure Tryz.prog G 223 [S ((bs t).extract (IntKind.i64.wrap ((a.length:Int)+1)).toNat (bs t).size)] (N (n6 (t.drop (a.length+1)))):=fun h=>by
    rw [e2];exact b8s _ hd (by rw [List.length_drop];omega)
  have hva:a.length≤9→n6 a < 1000000000:=fun h=>by
    exact Nat.lt_of_lt_of_le (a6l ha) (Nat.pow_le_pow_right (n:=10) (by decide) h)
  have hneg:IntKind.i64.wrap (0 - (n6 a:Int))= -(n6 a:Int)∨¬a.length≤9:=by
    by_cases h:a.length≤9
    · have:=hva h
      left;rw [IntKind.wrap_i64];omega
    · exact .inr h
  refine r8 Tryz.func177 rfl Tryz.ntmps177 ?_
  intro w0 E0 hc
  repeat' (first|(with_reducible first|refine j0 ?_|refine zwk ?_|refine i6 ?_|refine zgo ?_|refine zbn ?_|refine zge Tryz.results177 ?_|refine Sub.refl _|refine f9|refine w6 (out':=?_) ?_|refine u9 (y:=?_) ?_|refine w5 (eo':=?_) ?_)|(with_reducible refine zrs [7] hc ?_ ?_;focus (with_unfolding_all rfl))|(with_reducible refine zrm [7] hc mixed ?_ ?_;focus (with_unfolding_all rfl))|(with_reducible refine f6 ?_ ?_;focus (first|decide|omega))|(with_reducible first|refine zg2 ?_ ?_|refine zbo ?_|refine zg3 ?_ (fun h=>?_) (fun h=>?_)|refine zg4 (fun h=>?_) (fun h=>?_)|fail)|(omega;done))
  · have hb:qk t=false:=by rw [hqk];exact decide_eq_false (by omega)
    rw [hb];exact Sub.refl _
  all_goals
    refine m7 (st':=n5 [(5,S (bs t)),(6,Bo' neg)] [] 0) ?_ ?_
  · have hn:neg=true:=g0.1 (by rw [←ga];assumption)
    refine zW1 ?_ <;> repeat' (with_reducible first|exact trivial|refine j3 ?_ ?_|refine t7 (fun i hi=>?_))
    · rw [hex hn];exact Sub.refl _
    · refine j6 ?_
      rw [hn];exact congrArg Bo' (beq_iff_eq.2 (by rw [hn] at h;exact h))
  rotate_left 1
  · have hn:neg=false:=by
      cases neg
      · rfl
      · exact absurd (g0.2 rfl) (by rw [←ga];assumption)
    refine zW1 ?_ <;> repeat' (with_reducible first|exact trivial|refine j3 ?_ ?_|refine t7 (fun i hi=>?_))
    · rw [hn];exact Sub.refl _
    · refine j6 ?_
      rw [hn];exact congrArg Bo' (beq_eq_false_iff_ne.2 (by rw [hn] at h;exact h))
  rotate_left 1
  · have hn:neg=false:=by
      cases neg
      · rfl
      · exfalso;simp only [if_true] at hz;simp only [if_true] at h;omega
    refine zW1 ?_ <;> repeat' (with_reducible first|exact trivial|refine j3 ?_ ?_|refine t7 (fun i hi=>?_))
    · rw [hn];exact Sub.refl _
    · rw [hn];exact Sub.refl _
  all_goals
    clear hz hzz
    repeat' (first|(with_reducible first|refine j0 ?_|refine zwk ?_|refine i6 ?_|refine zgo ?_|refine zbn ?_|refine zge Tryz.results177 ?_|refine Sub.refl _|refine f9|refine w6 (out':=?_) ?_|refine u9 (y:=?_) ?_|refine w5 (eo':=?_) ?_)|(with_reducible refine zrs [10] hc ?_ ?_;focus (with_unfolding_all rfl))|(with_reducible refine zrm [10] hc mixed ?_ ?_;focus (with_unfolding_all rfl))|(with_reducible refine f6 ?_ ?_;focus (first|decide|omega))|(with_reducible first|refine zg2 ?_ ?_|refine c9 c_sl ?_ ?_|refine zbo ?_|refine zg3 ?_ (fun h=>?_) (fun h=>?_)|refine zg4 (fun h=>?_) (fun h=>?_)|fail)|((first|omega|(simp only [w2];omega));done))
    · rw [w2] at h
      have hb:qk t=false:=by rw [hqk];exact decide_eq_false (by omega)
      rw [hb];exact Sub.refl _
    rotate_left 1
    · have hb:qk t=false:=by rw [hqk];exact decide_eq_false (by omega)
      rw [hb];exact Sub.refl _
    rw [w2] at h
    have k9:a.length≤9:=by omega
    have k10:t.length - a.length≤10:=by omega
    have hb:qk t=true:=by rw [hqk];exact decide_eq_true ⟨k9,k10⟩
    rw [hb,hqd]
    have hng:IntKind.i64.wrap (0 - (n6 a:Int))= -(n6 a:Int):=hneg.resolve_right fun h=>h k9
    have S2:a.length < t.length→(0≤IntKind.i64.wrap ((a.length:Int)+1)∧IntKind.i64.wrap ((a.length:Int)+1)≤((bs t).size:Nat)∧((bs t).size:Int)≤((bs t).size:Nat)):=fun h=>by rw [w1,hs];omega
    repeat' (first|refine n7 hc Tryz.results177 ?_|(with_reducible first|exact trivial|refine j3 ?_ ?_|refine m8 (fun h=>?_)|refine c9 (c_v1 ?_) ?_ ?_|refine c9 (c_v2 ?_) ?_ ?_|fail)|((first|omega|exact S2 (by omega));done))
    all_goals
      rename_i gl
      rw [hs] at gl
      refine j6 ?_
      simp only [h,hng,if_true,Bool.false_eq_true,if_false]
      first
        | (rw [if_pos (by omega)])
        | (rw [if_neg (by omega)];rfl)
theorem a7b (s:List UInt8):s=if a4o s then 45 :: a0m s else a0m s:=by
  unfold a4o a0m
  by_cases h:s.head?=some 45
  · simp only [h,decide_true,if_true]
    cases s with
    | nil=>cases h
    | cons b l=>simp only [List.head?_cons,Option.some.injEq] at h;rw [h];rfl
  · simp only [h,decide_false,Bool.false_eq_true,if_false]
theorem a7f (q:Rat):a0m (c5 q)=Lib.decDigits q.num.natAbs++(if q.den=1 then [] else 47 :: Lib.decDigits q.den):=by
  obtain ⟨_,h2,h3⟩:=a3g q
  have h:=(a5i 47 (a0m (c5 q))).2
  rw [h2,h3] at h
  rw [h]
  by_cases h1:q.den=1
  · rw [if_pos h1,if_pos h1]
  · rw [if_neg h1,if_neg h1]
theorem b8q (q:Rat) (hl:(Lib.decDigits q.num.natAbs).length≤100000000) (hd:(Lib.decDigits q.den).length≤100000000):Ax.Pure Tryz.prog G 177 [S (bs (c5 q))] (.tup [N (if qk (a0m (c5 q)) then q.num else 0),N (if qk (a0m (c5 q)) then (q.den:Int) else 0),Bo' (qk (a0m (c5 q)))]):=by
  obtain ⟨p1,p2,_⟩:=a3g q
  have hs:=a7b (c5 q)
  rw [p1] at hs
  have hu:=a7f q
  have hdr:(a0m (c5 q)).drop ((Lib.decDigits q.num.natAbs).length+1)=if q.den=1 then [] else Lib.decDigits q.den:=by
    rw [hu]
    split
    · simp
    · rw [←List.drop_drop,List.drop_left];rfl
  have hlen:(a0m (c5 q)).length≤1000000000:=by
    rw [hu,List.length_append];split <;> simp only [List.length_nil,List.length_cons] <;> omega
  have h:=d6p (decide (q.num < 0)) (a0m (c5 q)) (by rw [p2];exact a1x _) (by rw [p2,hdr];split;exact c3t;exact a1x _) hlen
  have hqd:d6k (a0m (c5 q))=q.den:=by
    rw [d6k,p2,hdr]
    by_cases h1:q.den=1
    · rw [if_neg,h1];rw [hu,if_pos h1,List.append_nil];omega
    · rw [if_pos,if_neg h1,a3y];rw [hu,if_neg h1,List.length_append,List.length_cons];omega
  have hn:(if decide (q.num < 0)=true then -(q.num.natAbs:Int) else (q.num.natAbs:Int))=q.num:=c4t q.num
  rw [←hs,p2,a3y,hqd,hn] at h
  exact h
end Go.Proofs
end
section
set_option maxHeartbeats 4000000
set_option maxRecDepth 100000
namespace Go.Proofs
open Go.Ax
theorem b5d {q:Rat} (h:qk (a0m (c5 q))=true):q.num.natAbs < 1000000000∧q.den < 1000000000:=by
  unfold qk at h
  have h:=of_decide_eq_true h
  rw [(a3g q).2.1,a7f,List.length_append] at h
  refine ⟨a5b (k:=9) h.1,?_⟩
  by_cases h1:q.den=1
  · omega
  · rw [if_neg h1,List.length_cons] at h
    exact a5b (k:=9) (by omega)
theorem b86 (p q:Rat):Rat.divInt (p.num*q.den+q.num*p.den) ((p.den:Int)*q.den)=p+q:=by
  rw [Rat.add_def,Rat.normalize_eq_mkRat,←Int.natCast_mul];rfl
theorem b9v (p q:Rat):Rat.divInt (p.num*q.num) ((p.den:Int)*q.den)=p*q:=by
  rw [Rat.mul_def,Rat.normalize_eq_mkRat,←Int.natCast_mul];rfl
theorem r_Add (p q:Rat) (h1:rl p.num≤1000000) (h2:rl p.den≤1000000) (h3:rl q.num≤1000000) (h4:rl q.den≤1000000):Ax.Pure Tryz.prog G 59 [S (bs (c5 p)),S (bs (c5 q))] (S (bs (c5 (p+q)))):=by
  have d1:=a44 p.num.natAbs
  have d2:=a44 p.den
  have d3:=a44 q.num.natAbs
  have d4:=a44 q.den
  unfold rl at h1 h2 h3 h4
  rw [Int.natAbs_natCast] at h2 h4
  have c_qp:=b8q p (by omega) (by omega)
  have c_qq:=b8q q (by omega) (by omega)
  have c_pp:=b2h p (by omega) (by omega)
  have c_pq:=b2h q (by omega) (by omega)
  have o1:rl p.num≤1000000:=h1
  have o2:rl p.den≤1000000:=by unfold rl;rw [Int.natAbs_natCast];exact h2
  have o3:rl q.num≤1000000:=h3
  have o4:rl q.den≤1000000:=by unfold rl;rw [Int.natAbs_natCast];exact h4
  have m1:=b63 p.num q.den
  have m2:=b63 q.num p.den
  have m3:=b63 p.den q.den
  have m4:=e1t (p.num*q.den) (q.num*p.den)
  have hdn:(p.den:Int)*q.den≠0:=Int.mul_ne_zero (by have:=p.den_pos;omega) (by have:=q.den_pos;omega)
  have c_fr:=b0g (p.num*q.den+q.num*p.den) ((p.den:Int)*q.den) hdn (by omega) (by omega)
  rw [b86] at c_fr
  refine r8 Tryz.func59 rfl Tryz.ntmps59 ?_
  intro w0 E0 hc
  cases e1:qk (a0m (c5 p))
  · rw [e1] at c_qp
    repeat' (first|refine n7 hc Tryz.results59 ?_|(with_reducible first|exact trivial|refine j3 ?_ ?_|refine m8 (fun h=>?_)|refine c9 c_qp ?_ ?_|refine c9 c_qq ?_ ?_|refine c9 c_pp ?_ ?_|refine c9 c_pq ?_ ?_|refine c9 (b8r _ _ ?_ ?_) ?_ ?_|refine c9 (d6o _ _ ?_ ?_) ?_ ?_|refine c9 c_fr ?_ ?_|fail)|(omega;done))
  cases e2:qk (a0m (c5 q))
  · rw [e1] at c_qp
    rw [e2] at c_qq
    repeat' (first|refine n7 hc Tryz.results59 ?_|(with_reducible first|exact trivial|refine j3 ?_ ?_|refine m8 (fun h=>?_)|refine c9 c_qp ?_ ?_|refine c9 c_qq ?_ ?_|refine c9 c_pp ?_ ?_|refine c9 c_pq ?_ ?_|refine c9 (b8r _ _ ?_ ?_) ?_ ?_|refine c9 (d6o _ _ ?_ ?_) ?_ ?_|refine c9 c_fr ?_ ?_|fail)|(omega;done))
  rw [e1] at c_qp
  rw [e2] at c_qq
  obtain ⟨s1,s2⟩:=b5d e1
  obtain ⟨s3,s4⟩:=b5d e2
  have b1:(p.num*q.den).natAbs≤999999999*999999999:=by rw [Int.natAbs_mul];exact Nat.mul_le_mul (by omega) (by omega)
  have b2:(q.num*p.den).natAbs≤999999999*999999999:=by rw [Int.natAbs_mul];exact Nat.mul_le_mul (by omega) (by omega)
  have b3:((p.den:Int)*q.den).natAbs≤999999999*999999999:=by rw [Int.natAbs_mul];exact Nat.mul_le_mul (by omega) (by omega)
  have c_of:=r_Of (p.num*q.den+q.num*p.den) ((p.den:Int)*q.den) hdn (by omega) (by omega) (by omega) (by omega)
  rw [b86] at c_of
  have w1:IntKind.i64.wrap (p.num*q.den)=p.num*q.den:=w64 (by omega) (by omega)
  have w2:IntKind.i64.wrap (q.num*p.den)=q.num*p.den:=w64 (by omega) (by omega)
  have w3:IntKind.i64.wrap ((p.den:Int)*q.den)=(p.den:Int)*q.den:=w64 (by omega) (by omega)
  have w4:IntKind.i64.wrap (p.num*q.den+q.num*p.den)=p.num*q.den+q.num*p.den:=w64 (by omega) (by omega)
  rw [←w4,←w1,←w2,←w3] at c_of
  simp only [if_true] at c_qp c_qq
  repeat' (first|refine n7 hc Tryz.results59 ?_|(with_reducible first|exact trivial|refine j3 ?_ ?_|refine m8 (fun h=>?_)|refine c9 c_qp ?_ ?_|refine c9 c_qq ?_ ?_|refine c9 c_of ?_ ?_|fail)|(omega;done))
theorem r_Mul (p q:Rat) (h1:rl p.num≤1000000) (h2:rl p.den≤1000000) (h3:rl q.num≤1000000) (h4:rl q.den≤1000000):Ax.Pure Tryz.prog G 74 [S (bs (c5 p)),S (bs (c5 q))] (S (bs (c5 (p*q)))):=by
  have d1:=a44 p.num.natAbs
  have d2:=a44 p.den
  have d3:=a44 q.num.natAbs
  have d4:=a44 q.den
  unfold rl at h1 h2 h3 h4
  rw [Int.natAbs_natCast] at h2 h4
  have c_qp:=b8q p (by omega) (by omega)
  have c_qq:=b8q q (by omega) (by omega)
  have c_pp:=b2h p (by omega) (by omega)
  have c_pq:=b2h q (by omega) (by omega)
  have o1:rl p.num≤1000000:=h1
  have o2:rl p.den≤1000000:=by unfold rl;rw [Int.natAbs_natCast];exact h2
  have o3:rl q.num≤1000000:=h3
  have o4:rl q.den≤1000000:=by unfold rl;rw [Int.natAbs_natCast];exact h4
  have m1:=b63 p.num q.num
  have m3:=b63 p.den q.den
  have hdn:(p.den:Int)*q.den≠0:=Int.mul_ne_zero (by have:=p.den_pos;omega) (by have:=q.den_pos;omega)
  have c_fr:=b0g (p.num*q.num) ((p.den:Int)*q.den) hdn (by omega) (by omega)
  rw [b9v] at c_fr
  refine r8 Tryz.func74 rfl Tryz.ntmps74 ?_
  intro w0 E0 hc
  cases e1:qk (a0m (c5 p))
  · rw [e1] at c_qp
    repeat' (first|refine n7 hc Tryz.results74 ?_|(with_reducible first|exact trivial|refine j3 ?_ ?_|refine m8 (fun h=>?_)|refine c9 c_qp ?_ ?_|refine c9 c_qq ?_ ?_|refine c9 c_pp ?_ ?_|refine c9 c_pq ?_ ?_|refine c9 (b8r _ _ ?_ ?_) ?_ ?_|refine c9 c_fr ?_ ?_|fail)|(omega;done))
  cases e2:qk (a0m (c5 q))
  · rw [e1] at c_qp
    rw [e2] at c_qq
    repeat' (first|refine n7 hc Tryz.results74 ?_|(with_reducible first|exact trivial|refine j3 ?_ ?_|refine m8 (fun h=>?_)|refine c9 c_qp ?_ ?_|refine c9 c_qq ?_ ?_|refine c9 c_pp ?_ ?_|refine c9 c_pq ?_ ?_|refine c9 (b8r _ _ ?_ ?_) ?_ ?_|refine c9 c_fr ?_ ?_|fail)|(omega;done))
  rw [e1] at c_qp
  rw [e2] at c_qq
  obtain ⟨s1,s2⟩:=b5d e1
  obtain ⟨s3,s4⟩:=b5d e2
  have b1:(p.num*q.num).natAbs≤999999999*999999999:=by rw [Int.natAbs_mul];exact Nat.mul_le_mul (by omega) (by omega)
  have b3:((p.den:Int)*q.den).natAbs≤999999999*999999999:=by rw [Int.natAbs_mul];exact Nat.mul_le_mul (by omega) (by omega)
  have c_of:=r_Of (p.num*q.num) ((p.den:Int)*q.den) hdn (by omega) (by omega) (by omega) (by omega)
  rw [b9v] at c_of
  have w3:IntKind.i64.wrap ((p.den:Int)*q.den)=(p.den:Int)*q.den:=w64 (by omega) (by omega)
  have w4:IntKind.i64.wrap (p.num*q.num)=p.num*q.num:=w64 (by omega) (by omega)
  rw [←w4,←w3] at c_of
  simp only [if_true] at c_qp c_qq
  repeat' (first|refine n7 hc Tryz.results74 ?_|(with_reducible first|exact trivial|refine j3 ?_ ?_|refine m8 (fun h=>?_)|refine c9 c_qp ?_ ?_|refine c9 c_qq ?_ ?_|refine c9 c_of ?_ ?_|fail)|(omega;done))
end Go.Proofs
end
section
set_option maxHeartbeats 4000000
set_option maxRecDepth 100000
namespace Go.Proofs
open Go.Ax
theorem a3n:c5 0= [48]:=by
  unfold c5 r6
  rw [if_pos (by rfl),if_neg (by decide)]
  exact a3z
theorem b0h (q:Rat):((bs (c5 q)).toList == (⟨#[48]⟩:ByteArray).toList)=true↔q=0:=by
  rw [ByteArray.toList_eq,ByteArray.toList_eq,beq_iff_eq]
  constructor
  · intro h
    refine b96 ?_
    rw [a3n]
    simpa using h
  · intro h;rw [h,a3n]
theorem d9d (q:Rat):(((c5 q).getD 0 0).toNat:Int)=45↔q.num < 0:=by
  have hs:=a7b (c5 q)
  rw [(a3g q).1] at hs
  have hh:=d0n (a0m (c5 q)) (by rw [(a3g q).2.1];exact a1x _)
  rw [hs]
  by_cases h:q.num < 0
  · simp only [h,decide_true,if_true];exact ⟨fun _=>trivial,fun _=>rfl⟩
  · simp only [h,decide_false,Bool.false_eq_true,if_false,iff_false]
    exact fun e=>hh (UInt8.toNat_inj.1 (Int.ofNat.inj e))
def sgQ (q:Rat):Int:=if q=0 then 0 else if q.num < 0 then -1 else 1
theorem c4i (q:Rat):Ax.Pure Tryz.prog G 165 [S (bs (c5 q))] (N (sgQ q)):=by
  have h0:=b0h q
  have h1:=d9d q
  have ga:=b1d (c5 q) 0
  have hs:=m6 (c5 q)
  refine r8 Tryz.func165 rfl Tryz.ntmps165 ?_
  intro w0 E0 hc
  repeat' (first|refine n7 hc Tryz.results165 ?_|(with_reducible first|exact trivial|refine j3 ?_ ?_|refine m8 (fun h=>?_)|fail)|(omega;done))
  · refine j6 ?_
    rw [sgQ,if_pos (h0.1 h)]
  · rename_i g1 g2
    rw [ga] at h
    refine j6 ?_
    rw [sgQ,if_neg (fun e=>by rw [h0.2 e] at g1;cases g1),if_pos (h1.1 h)]
  · rename_i g1 g2
    rw [ga] at h
    refine j6 ?_
    rw [sgQ,if_neg (fun e=>by rw [h0.2 e] at g1;cases g1),if_neg (fun e=>h (h1.2 e))]
  · rename_i g2
    have hl:(c5 q).length=0:=by omega
    have e:c5 q= []:=List.length_eq_zero_iff.1 hl
    refine j6 ?_
    rw [sgQ,if_neg (fun e=>by rw [h0.2 e] at g2;cases g2),if_neg]
    intro e2
    have:=h1.2 e2
    rw [e] at this
    exact absurd this (by decide)
end Go.Proofs
end
section
set_option maxHeartbeats 4000000
set_option maxRecDepth 100000
namespace Go.Proofs
open Go.Ax
theorem d6t {z:Int} {k:Nat} (h:z.natAbs < 2 ^ k):rl z≤k:=b99 (Nat.lt_of_lt_of_le h (Nat.pow_le_pow_left (by decide) k))
theorem c7t {k:Nat} {q:Rat} (h:Q k q):rl q.num≤k∧rl (q.den:Int)≤k:=⟨d6t h.1,d6t (by simpa using h.2)⟩
theorem Q_dl {k:Nat} {q:Rat} (h:Q k q):(Lib.decDigits q.num.natAbs).length≤9*k+1∧(Lib.decDigits q.den).length≤9*k+1:=by
  have h1:=c7t h
  have h2:=a44 q.num.natAbs
  have h3:=a44 q.den
  unfold rl at h1
  rw [Int.natAbs_natCast] at h1
  omega
theorem Q_ll {k:Nat} {q:Rat} (h:Q k q):(c5 q).length≤18*k+4:=by
  obtain ⟨h1,h2⟩:=Q_dl h
  have h3:=a7b (c5 q)
  have h4:=a7f q
  have h5:(c5 q).length≤(a0m (c5 q)).length+1:=by
    have:(c5 q).length=(if a4o (c5 q) then 45 :: a0m (c5 q) else a0m (c5 q)).length:=by rw [←h3]
    rw [this]
    split
    · exact Nat.le_of_eq (List.length_cons)
    · omega
  rw [h4,List.length_append] at h5
  split at h5
  · simp only [List.length_nil] at h5;omega
  · rw [List.length_cons] at h5;omega
theorem c5b (q:Rat):a1q 47 (c5 q)=r6 q.num:=by
  unfold c5
  split
  · exact (a6r (a1n _)).1
  · exact (a9p (a1n _)).1
theorem b97 (z:Int):c5 (z:Rat)=r6 z:=by
  unfold c5
  rw [Rat.den_intCast,if_pos rfl,Rat.num_intCast]
theorem b33 {q:Rat} (h:q.num < 0):c5 q=45 :: c5 (-q):=by
  have h1:=a7b (c5 q)
  have h2:=a7b (c5 (-q))
  rw [(a3g q).1,decide_eq_true h,if_pos rfl,a7f] at h1
  rw [(a3g (-q)).1,Rat.neg_num,decide_eq_false (by omega),if_neg (by decide),a7f,Rat.neg_num,Rat.neg_den,Int.natAbs_neg] at h2
  rw [h1,h2]
theorem d1d {q:Rat}:sgQ q < 0↔q.num < 0:=by
  unfold sgQ
  split
  · rename_i h;subst h;exact ⟨fun h=>absurd h (by decide),fun h=>absurd h (by decide)⟩
  · split <;> omega
theorem d67 {q:Rat}:sgQ q=0↔q=0:=by
  unfold sgQ
  split
  · exact ⟨fun _=>by assumption,fun _=>rfl⟩
  · split <;> exact ⟨fun h=>absurd h (by decide),fun h=>absurd h (by assumption)⟩
theorem d9q (c:UInt8) (l:List UInt8):l.take (a1q c l).length=a1q c l:=by
  have h:=(a5i c l).2
  have g:∀(a b:List UInt8),l=a++b→l.take a.length=a:=fun a b e=>by rw [e,List.take_left'];rfl
  exact g _ _ h
theorem cut1 (x:UInt8) (l:List UInt8):(bs (x :: l)).extract 1 (bs (x :: l)).size=bs l:=by
  rw [a0k,m6];simp
theorem r_Neg (q:Rat) {k:Nat} (hq:Q k q) (hk:k≤1000000):Ax.Pure Tryz.prog G 73 [S (bs (c5 q))] (S (bs (c5 (-q)))):=by
  have c_s:=c4i q
  have hl:=Q_ll hq
  have hs:=m6 (c5 q)
  have hn:=@d1d q
  have hz:=@d67 q
  have he:sgQ q < 0→(bs (c5 q)).extract 1 (bs (c5 q)).size=bs (c5 (-q)):=fun h=>by rw [b33 (hn.1 h),cut1]
  have h1:sgQ q < 0→1≤(bs (c5 q)).size:=fun h=>by rw [hs,b33 (hn.1 h)];simp
  have h0:sgQ q=0→c5 q=c5 (-q):=fun h=>by rw [hz.1 h];rfl
  have hp:¬sgQ q < 0→sgQ q≠0→(⟨#[45]⟩:ByteArray)++bs (c5 q)=bs (c5 (-q)):=fun h g=>by
    have:(-q).num < 0:=by
      rw [Rat.neg_num]
      have h2:¬q.num < 0:=fun h'=>h (hn.2 h')
      have h3:q.num≠0:=fun h'=>g (hz.2 (Rat.num_eq_zero.1 h'))
      omega
    rw [b33 this,Rat.neg_neg]
    exact a1c [45] _
  have hz1:(⟨#[45]⟩:ByteArray).size+(bs (c5 q)).size≤9223372036854775807∧true=true:=⟨by rw [hs,show (⟨#[45]⟩:ByteArray).size=1 from rfl];omega,rfl⟩
  generalize sgQ q=s at *
  refine r8 Tryz.func73 rfl Tryz.ntmps73 ?_
  intro w0 E0 hc
  repeat' (first|refine n7 hc Tryz.results73 ?_|(with_reducible first|exact trivial|refine j3 ?_ ?_|refine m8 (fun h=>?_)|refine c9 c_s ?_ ?_|fail)|((first|omega|(have:=h1 (by assumption);omega)|exact hz1);done))
  · exact j6 (congrArg S (he (by assumption)))
  · exact j6 (congrArg (fun l=>S (bs l)) (h0 (by assumption)))
  · exact j6 (congrArg S (hp (by assumption) (by assumption)))
theorem r_Num (q:Rat) {k:Nat} (hq:Q k q) (hk:k≤1000000):Ax.Pure Tryz.prog G 196 [S (bs (c5 q))] (S (bs (r6 q.num))):=by
  have hl:=Q_ll hq
  have c_sl:=a7t (c5 q) (by omega)
  have hu:=c0u 47 (c5 q)
  have he:(bs (c5 q)).extract 0 (a1q 47 (c5 q)).length=bs (r6 q.num):=by
    rw [a0k,List.drop_zero,Nat.sub_zero,d9q,c5b]
  have hs:=m6 (c5 q)
  generalize (a1q 47 (c5 q)).length=m at *
  refine r8 Tryz.func196 rfl Tryz.ntmps196 ?_
  intro w0 E0 hc
  repeat' (first|refine n7 hc Tryz.results196 ?_|(with_reducible first|exact trivial|refine j3 ?_ ?_|refine m8 (fun h=>?_)|refine c9 c_sl ?_ ?_|fail)|(omega;done))
  all_goals exact j6 (congrArg S he)
theorem b91 (q:Rat):Ax.Pure Tryz.prog G 107 [S (bs (c5 q))] (Bo (decide (q=0))):=by
  have h:=b0h q
  refine r8 Tryz.func107 rfl Tryz.ntmps107 ?_
  intro w0 E0 hc
  repeat' (first|refine n7 hc Tryz.results107 ?_|(with_reducible first|exact trivial|refine j3 ?_ ?_|refine m8 (fun h=>?_)|fail)|(omega;done))
  all_goals exact j6 (congrArg Bo (Bool.eq_iff_iff.2 (h.trans (by simp))))
theorem b5h (q:Rat) (h0:q≠0) {k:Nat} (hq:Q k q) (hk:k≤1000000):Ax.Pure Tryz.prog G 191 [S (bs (c5 q))] (S (bs (c5 q⁻¹))):=by
  have hd:=Q_dl hq
  have hr:=c7t hq
  have hn:q.num≠0:=fun h=>h0 (Rat.num_eq_zero.1 h)
  have c_p:=b2h q (by omega) (by omega)
  have c_f:=b0g q.den q.num hn (by omega) (by omega)
  rw [show Rat.divInt q.den q.num=q⁻¹ from (Rat.inv_def q).symm] at c_f
  refine r8 Tryz.func191 rfl Tryz.ntmps191 ?_
  intro w0 E0 hc
  repeat' (first|refine n7 hc Tryz.results191 ?_|(with_reducible first|exact trivial|refine j3 ?_ ?_|refine m8 (fun h=>?_)|refine c9 c_p ?_ ?_|refine c9 c_f ?_ ?_|fail)|(omega;done))
theorem b32 (p q:Rat) {k:Nat} (hp:Q k p) (hq:Q k q) (hk:k≤1000000):Ax.Pure Tryz.prog G 59 [S (bs (c5 p)),S (bs (c5 q))] (S (bs (c5 (p+q)))):=by
  have h1:=c7t hp
  have h2:=c7t hq
  exact r_Add p q (by omega) (by omega) (by omega) (by omega)
theorem a3v (p q:Rat) {k:Nat} (hp:Q k p) (hq:Q k q) (hk:k≤1000000):Ax.Pure Tryz.prog G 74 [S (bs (c5 p)),S (bs (c5 q))] (S (bs (c5 (p*q)))):=by
  have h1:=c7t hp
  have h2:=c7t hq
  exact r_Mul p q (by omega) (by omega) (by omega) (by omega)
theorem b72 (p q:Rat) {k:Nat} (hp:Q k p) (hq:Q k q) (hk:k≤1000000):Ax.Pure Tryz.prog G 105 [S (bs (c5 p)),S (bs (c5 q))] (S (bs (c5 (p - q)))):=by
  have c_n:=r_Neg q hq hk
  have c_a:=b32 p (-q) hp (c9w hq) hk
  rw [←Rat.sub_eq_add_neg] at c_a
  refine r8 Tryz.func105 rfl Tryz.ntmps105 ?_
  intro w0 E0 hc
  repeat' (first|refine n7 hc Tryz.results105 ?_|(with_reducible first|exact trivial|refine j3 ?_ ?_|refine m8 (fun h=>?_)|refine c9 c_n ?_ ?_|refine c9 c_a ?_ ?_|fail)|(omega;done))
theorem d6m (p q:Rat) (h0:q≠0) {k:Nat} (hp:Q k p) (hq:Q k q) (hk:k≤1000000):Ax.Pure Tryz.prog G 108 [S (bs (c5 p)),S (bs (c5 q))] (S (bs (c5 (p / q)))):=by
  have c_n:=b5h q h0 hq hk
  have c_a:=a3v p q⁻¹ hp (a25 hq) hk
  rw [←Rat.div_def] at c_a
  refine r8 Tryz.func108 rfl Tryz.ntmps108 ?_
  intro w0 E0 hc
  repeat' (first|refine n7 hc Tryz.results108 ?_|(with_reducible first|exact trivial|refine j3 ?_ ?_|refine m8 (fun h=>?_)|refine c9 c_n ?_ ?_|refine c9 c_a ?_ ?_|fail)|(omega;done))
theorem r_Cmp (p q:Rat) {k:Nat} (hp:Q k p) (hq:Q k q) (hk:k≤1000000):Ax.Pure Tryz.prog G 106 [S (bs (c5 p)),S (bs (c5 q))] (N (sgQ (p - q))):=by
  have c_n:=b72 p q hp hq hk
  have c_a:=c4i (p - q)
  refine r8 Tryz.func106 rfl Tryz.ntmps106 ?_
  intro w0 E0 hc
  repeat' (first|refine n7 hc Tryz.results106 ?_|(with_reducible first|exact trivial|refine j3 ?_ ?_|refine m8 (fun h=>?_)|refine c9 c_n ?_ ?_|refine c9 c_a ?_ ?_|fail)|(omega;done))
end Go.Proofs
end
