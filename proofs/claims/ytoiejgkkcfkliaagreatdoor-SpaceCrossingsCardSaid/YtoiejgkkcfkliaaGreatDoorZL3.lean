/- Lemmas on the program and its library: part ZL3. -/
import Derived.Test.YtoiejgkkcfkliaaGreatDoorZR16
import Derived.Test.YtoiejgkkcfkliaaGreatDoorZW32
set_option linter.unusedVariables false
set_option linter.unusedSimpArgs false
section
set_option maxHeartbeats 4000000
set_option maxRecDepth 100000
namespace Go.Proofs
open Go.Ax
theorem nz1 {e:Int} {l:List Int} (h:e≠0):firstNZ (e :: l)=e:=by unfold firstNZ;rw [if_neg h]
theorem nz0 {l:List Int}:firstNZ (0 :: l)=firstNZ l:=by conv=>lhs;unfold firstNZ;rw [if_pos rfl]
theorem beq_bs (l:List UInt8):((bs l).toList == (bs l).toList)=true:=by rw [bs_beq];exact decide_eq_true rfl
theorem nfb {p:Prop} {b:Bool} (h:b=false) (g:b=true):p:=absurd (h.symm.trans g) Bool.false_ne_true
theorem l_num_bad (e:Int) (he:e≠0) (w:ByteArray):Ax.Pure Tryz.prog G 25 [S (bs []),N e,N e,S w] (Bo true):=by
  have hb:=beq_bs []
  refine zen Tryz.func25 rfl Tryz.ntmps25 ?_
  intro w0 E0 hc
  repeat' (first|refine zR1 hc Tryz.results25 ?_|(with_reducible first|exact trivial|refine zan ?_ ?_|refine zim (fun h=>?_)|fail)|((first|omega|exact nfb h hb);done))
  all_goals exact sub_eq (congrArg Bo (by simp))
theorem l_num_ok {k:Nat} (hk:k≤1000000) (q:Rat) (hq:Q k q):Ax.Pure Tryz.prog G 25 [S (bs (txl (bigQ q) q)),N (exl (bigQ q)),N 0,S (bs (ratL q))] (Bo true):=by
  have c_l:=r_Large q hq hk
  have hb:=beq_bs (ratL q)
  have hb0:=beq_bs []
  cases h:bigQ q <;> rw [h] at c_l <;> simp only [if_true,Bool.false_eq_true,if_false] at c_l
  · show Ax.Pure Tryz.prog G 25 [S (bs (ratL q)),N 0,N 0,S (bs (ratL q))] (Bo true)
    refine zen Tryz.func25 rfl Tryz.ntmps25 ?_
    intro w0 E0 hc
    repeat' (first|refine zR1 hc Tryz.results25 ?_|(with_reducible first|exact trivial|refine zan ?_ ?_|refine zim (fun h=>?_)|refine zoc c_l ?_ ?_|fail)|((first|omega|exact nfb h hb0);done))
    all_goals exact sub_eq (congrArg Bo (by simp))
  · show Ax.Pure Tryz.prog G 25 [S (bs []),N 4,N 0,S (bs (ratL q))] (Bo true)
    refine zen Tryz.func25 rfl Tryz.ntmps25 ?_
    intro w0 E0 hc
    repeat' (first|refine zR1 hc Tryz.results25 ?_|(with_reducible first|exact trivial|refine zan ?_ ?_|refine zim (fun h=>?_)|refine zoc c_l ?_ ?_|fail)|((first|omega|exact nfb h hb0);done))
    all_goals exact sub_eq (congrArg Bo (by simp))
theorem l_first (l:List Int) (hl:l.length≤1000000):Ax.Pure Tryz.prog G 30 [L64 l] (N (firstNZ l)):=by
  refine zen Tryz.func30 rfl Tryz.ntmps30 ?_
  intro w0 E0 hc
  repeat' (first|refine zR1 hc Tryz.results30 ?_|(with_reducible first|exact trivial|refine zan ?_ ?_|refine zim (fun h=>?_)|fail)|(omega;done))
  refine Wp_loopI (α:=Nat) (fun i=>stOf [(0,L64 l),(3,N i)] [] 0) (fun i=>i≤l.length∧firstNZ l=firstNZ (l.drop i)) (fun i=>l.length - i) 0 ⟨Nat.zero_le _,rfl⟩ ?_ ?_
  · refine zW1 ?_ <;> repeat' (with_reducible first|exact trivial|refine zan ?_ ?_|refine zal (fun i hi=>?_))
  · rintro i ⟨h1,h2⟩
    have hd:=fun h:i < l.length=>firstNZ_drop h
    repeat' (first|refine zR1 hc Tryz.results30 ?_|(with_reducible first|exact trivial|refine zan ?_ ?_|refine zim (fun h=>?_)|fail)|(omega;done))
    · have hd':=hd (by omega)
      rw [if_neg h] at hd'
      exact sub_eq (by rw [h2,hd'])
    · have hd':=hd (by omega)
      rw [if_pos h] at hd'
      refine ⟨i+1,⟨by omega,by rw [h2,hd']⟩,by omega,?_⟩
      refine zW1 ?_ <;> repeat' (with_reducible first|exact trivial|refine zan ?_ ?_|refine zal (fun i hi=>?_))
    · have:l.length≤i:=by omega
      rw [List.drop_eq_nil_of_le this] at h2
      exact sub_eq (by rw [h2];rfl)
theorem l_first2 (a b:Int):Ax.Pure Tryz.prog G 30 [.one (.row 1 2 (fun i=> [[Leaf.v (.int .i64 a)],[Leaf.v (.int .i64 b)]].getD i []))] (N (firstNZ [a,b])):=
  pure_args (l_first [a,b] (show 2≤1000000 by decide)) ⟨sub_row_list [a,b],trivial⟩ ⟨trivial,trivial⟩
def shV (n:Nat) (v:V3):Prop:=v.1.length≤n∧v.2.1.length≤n∧v.2.2.length≤n
instance (n:Nat) (v:V3):Decidable (shV n v):=by unfold shV;infer_instance
end Go.Proofs
end
section
set_option maxHeartbeats 4000000
set_option maxRecDepth 100000
namespace Go.Proofs
open Go.Ax
theorem r_FromI (n:Int) (h:i64 n):Ax.Pure Tryz.prog G 160 [N n] (S (bs (ratL (n:Rat)))):=by
  rw [ratL_int];exact r_FromInt n h.1 (by have:=h.2;omega)
theorem r_Ints (x y z:Int) (hx:i64 x) (hy:i64 y) (hz:i64 z):Ax.Pure Tryz.prog G 176 [N x,N y,N z] (tV (ratL (x:Rat)) (ratL (y:Rat)) (ratL (z:Rat))):=by
  have c_1:=r_FromI x hx
  have c_2:=r_FromI y hy
  have c_3:=r_FromI z hz
  refine zen Tryz.func176 rfl Tryz.ntmps176 ?_
  intro w0 E0 hc
  repeat' (first|refine zR1 hc Tryz.results176 ?_|(with_reducible first|exact trivial|refine zan ?_ ?_|refine zim (fun h=>?_)|refine zoc c_1 ?_ ?_|refine zoc c_2 ?_ ?_|refine zoc c_3 ?_ ?_|fail)|(omega;done))
end Go.Proofs
end
