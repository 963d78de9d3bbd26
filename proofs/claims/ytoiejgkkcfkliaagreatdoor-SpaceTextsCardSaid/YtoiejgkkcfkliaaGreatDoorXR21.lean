/- Lemmas on the program and its library: part XR21. -/
import Derived.Test.YtoiejgkkcfkliaaGreatDoorZW29
import Derived.Test.YtoiejgkkcfkliaaGreatDoorZW35
import Derived.Test.YtoiejgkkcfkliaaGreatDoorZW36
set_option linter.unusedVariables false
set_option linter.unusedSimpArgs false
section
namespace Go.Proofs
open Go.Ax
theorem one_2k {k:Nat} (h:k≠0):1 < 2 ^ (4*k):=Nat.one_lt_two_pow (by omega)
end Go.Proofs
end
section
set_option maxHeartbeats 4000000
set_option maxRecDepth 100000
namespace Go.Proofs
open Go.Ax
theorem nameB_okC {s:ByteArray} {i:Nat} (hi:i < s.size):okC i (s.data.getD i 0).toNat=okC i (s[i]'hi).toNat:=by rw [getD_get s i hi]
theorem okAll_step {s:ByteArray} {i:Nat} (hi:i < s.size) (hk:okAll s i) (h:(97≤((s.data.getD i 0).toNat:Int)∧((s.data.getD i 0).toNat:Int)≤122)∨(65≤((s.data.getD i 0).toNat:Int)∧((s.data.getD i 0).toNat:Int)≤90)∨(¬i=0∧(((s.data.getD i 0).toNat:Int)=95∨(48≤((s.data.getD i 0).toNat:Int)∧((s.data.getD i 0).toNat:Int)≤57)))):okAll s (i+1):=by
  refine okAll_succ hi hk ?_
  rw [←nameB_okC hi]
  exact (okC_iff _ _).2 (by omega)
theorem nameB_bad {s:ByteArray} {i:Nat} (hi:i < s.size) (h:¬((97≤((s.data.getD i 0).toNat:Int)∧((s.data.getD i 0).toNat:Int)≤122)∨(65≤((s.data.getD i 0).toNat:Int)∧((s.data.getD i 0).toNat:Int)≤90)∨(¬i=0∧(((s.data.getD i 0).toNat:Int)=95∨(48≤((s.data.getD i 0).toNat:Int)∧((s.data.getD i 0).toNat:Int)≤57))))):nameB s=false:=by
  refine nameB_not hi ?_
  rw [←nameB_okC hi]
  cases e:okC i (s.data.getD i 0).toNat
  · rfl
  · have:=(okC_iff _ _).1 e
    exact absurd (by omega) h
theorem r_IsName (s:ByteArray) (hl:s.size≤1000000000):Ax.Pure Tryz.prog G 19 [S s] (Bo (nameB s)):=by
  have hbad:¬(0 < s.size∧s.size≤24)→nameB s=false:=fun h=>by
    unfold nameB
    by_cases h1:0 < s.size
    · rw [decide_eq_false (p:=s.size≤24) (fun h2=>h ⟨h1,h2⟩)];simp
    · rw [decide_eq_false h1];simp
  refine zen Tryz.func19 rfl Tryz.ntmps19 ?_
  intro w0 E0 hc
  repeat' (first|refine zR1 hc Tryz.results19 ?_|(with_reducible first|exact trivial|refine zan ?_ ?_|refine zim (fun h=>?_)|fail)|(omega;done))
  all_goals try (rw [hbad (by omega)];exact Sub.refl _)
  refine Wp_loopI (α:=Nat) (fun i=>stOf [(0,S s),(3,N i)] [] 0)
    (fun i=>i≤s.size∧okAll s i) (fun i=>s.size - i) 0 ⟨Nat.zero_le _,fun i _ h=>absurd h (Nat.not_lt_zero i)⟩ ?_ ?_
  · refine zW1 ?_ <;> repeat' (with_reducible first|exact trivial|refine zan ?_ ?_|refine zal (fun i hi=>?_))
  · rintro i ⟨hi,hi2⟩
    have hS:=fun hlt=>okAll_step (s:=s) (i:=i) hlt hi2
    have hB:=fun hlt=>nameB_bad (s:=s) (i:=i) hlt
    have hE:i=s.size→0 < s.size→s.size≤24→nameB s=true:=fun e h1 h2=>by
      rw [nameB_all (e ▸ hi2),decide_eq_true h1,decide_eq_true h2];rfl
    repeat' (first|refine zR1 hc Tryz.results19 ?_|(with_reducible first|exact trivial|refine zan ?_ ?_|refine zim (fun h=>?_)|fail)|(omega;done))
    all_goals try (rw [hE (by omega) (by omega) (by omega)];exact Sub.refl _)
    all_goals try (rw [hB (by omega) (by clear hS hB hE hi2 hbad hc;simp at* <;> omega)];exact Sub.refl _)
    all_goals
      refine ⟨i+1,⟨by omega,hS (by omega) (by clear hS hB hE hi2 hbad hc;simp at* <;> omega)⟩,by omega,?_⟩
      refine zW1 ?_ <;> repeat' (with_reducible first|exact trivial|refine zan ?_ ?_|refine zal (fun i hi=>?_))
def sepB (c:UInt8):Bool:=decide (c=47) || decide (c=46)
def upSep:List UInt8→List UInt8
  | []=> []
  | x :: l=>if sepB x=true then [] else x :: upSep l
theorem upSep_hit {n d:List UInt8} {c:UInt8} (hn:∀x∈n,sepB x=false) (hc:sepB c=true):upSep (n++c :: d)=n:=by
  induction n with
  | nil=>simp [upSep,hc]
  | cons x n ih =>
    have hx:=hn x (by simp)
    simp [upSep,hx,ih (fun y hy=>hn y (by simp [hy]))]
theorem upSep_miss {n:List UInt8} (hn:∀x∈n,sepB x=false):upSep n=n:=by
  induction n with
  | nil=>rfl
  | cons x n ih =>
    have hx:=hn x (by simp)
    simp [upSep,hx,ih (fun y hy=>hn y (by simp [hy]))]
theorem upSep_split (l:List UInt8):(∀x∈upSep l,sepB x=false)∧(l=upSep l∨∃c d,sepB c=true∧l=upSep l++c :: d):=by
  induction l with
  | nil=>exact ⟨by simp [upSep],.inl rfl⟩
  | cons x l ih =>
    unfold upSep
    cases hx:sepB x
    · rw [if_neg (by decide)]
      refine ⟨fun y hy=>?_,?_⟩
      · rcases List.mem_cons.1 hy with rfl|hy
        · exact hx
        · exact ih.1 y hy
      · rcases ih.2 with h|⟨c,d,h1,h2⟩
        · exact .inl (by rw [←h])
        · exact .inr ⟨c,d,h1,by rw [List.cons_append,←h2]⟩
    · rw [if_pos rfl]
      exact ⟨by simp,.inr ⟨x,l,hx,rfl⟩⟩
theorem upSep_drop {l:List UInt8} {i:Nat} (h:i < l.length):upSep (l.drop i)=if sepB (l.getD i 0)=true then [] else l.getD i 0 :: upSep (l.drop (i+1)):=by
  rw [List.drop_eq_getElem_cons h,List.getD_eq_getElem?_getD,List.getElem?_eq_getElem h]
  rfl
theorem sepB_iff (c:UInt8):sepB c=true↔((c.toNat:Int)=47∨(c.toNat:Int)=46):=by
  unfold sepB
  rw [Bool.or_eq_true,decide_eq_true_iff,decide_eq_true_iff]
  constructor
  · rintro (rfl|rfl)
    · exact .inl rfl
    · exact .inr rfl
  · rintro (h|h)
    · exact .inl (UInt8.toNat_inj.1 (Int.ofNat.inj h))
    · exact .inr (UInt8.toNat_inj.1 (Int.ofNat.inj h))
theorem r_point (l:List UInt8) (hl:l.length≤1000000000):Ax.Pure Tryz.prog G 132 [S (bs l)] (N (upSep l).length):=by
  have hsz:=bs_size l
  refine zen Tryz.func132 rfl Tryz.ntmps132 ?_
  intro w0 E0 hc
  repeat' (first|refine zR1 hc Tryz.results132 ?_|(with_reducible first|exact trivial|refine zan ?_ ?_|refine zim (fun h=>?_)|fail)|(omega;done))
  refine Wp_loopI (α:=Nat) (fun i=>stOf [(0,S (bs l)),(3,N i)] [] 0)
    (fun i=>i≤l.length∧(upSep l).length=i+(upSep (l.drop i)).length) (fun i=>l.length - i) 0 ⟨Nat.zero_le _,by simp⟩ ?_ ?_
  · refine zW1 ?_ <;> repeat' (with_reducible first|exact trivial|refine zan ?_ ?_|refine zal (fun i hi=>?_))
  · rintro i ⟨hi,hi2⟩
    have ga:=getD_arr2 l i
    have hd:=fun h:i < l.length=>upSep_drop h
    have hs:=sepB_iff (l.getD i 0)
    rw [←ga] at hs
    have hT:i < l.length→(((l.toArray.getD i 0).toNat:Int)=47∨((l.toArray.getD i 0).toNat:Int)=46)→(upSep l).length=i:=fun h1 h2=>by
      rw [hi2,hd h1,←ga,if_pos (hs.2 h2)];rfl
    have hF:i < l.length→¬(((l.toArray.getD i 0).toNat:Int)=47∨((l.toArray.getD i 0).toNat:Int)=46)→(upSep l).length=(i+1)+(upSep (l.drop (i+1))).length:=fun h1 h2=>by
      rw [hi2,hd h1,←ga,if_neg (fun h=>h2 (hs.1 h)),List.length_cons];omega
    have hE:¬i < l.length→(upSep l).length=l.length:=fun h1=>by
      rw [hi2,List.drop_eq_nil_of_le (by omega)]
      show i+0=l.length
      omega
    repeat' (first|refine zR1 hc Tryz.results132 ?_|(with_reducible first|exact trivial|refine zan ?_ ?_|refine zim (fun h=>?_)|fail)|(omega;done))
    · rw [hT (by omega) (by omega)];exact Sub.refl _
    · refine ⟨i+1,⟨by omega,hF (by omega) (by omega)⟩,by omega,?_⟩
      refine zW1 ?_ <;> repeat' (with_reducible first|exact trivial|refine zan ?_ ?_|refine zal (fun i hi=>?_))
    · rw [hT (by omega) (by omega)];exact Sub.refl _
    · rw [hE (by omega),hsz];exact Sub.refl _
end Go.Proofs
end
