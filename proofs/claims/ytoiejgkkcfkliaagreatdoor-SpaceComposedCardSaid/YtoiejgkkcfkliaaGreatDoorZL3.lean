/- Lemmas on the program and its library: part ZL3. -/
import Derived.Test.YtoiejgkkcfkliaaGreatDoorZR16
import Derived.Test.YtoiejgkkcfkliaaGreatDoorZW32
set_option linter.unusedVariables false
set_option linter.unusedSimpArgs false
section
set_option maxHeartbeats 4000000
set_option maxRecDepth 100000
namespace Go.Proofs
open Go.Ax
theorem nz1 {e:Int} {l:List Int} (h:e≠0):u5 (e :: l)=e:=by unfold u5;rw [if_neg h]
theorem nz0 {l:List Int}:u5 (0 :: l)=u5 l:=by conv=>lhs;unfold u5;rw [if_pos rfl]
theorem b3i (l:List UInt8):((bs l).toList == (bs l).toList)=true:=by rw [a6y];exact decide_eq_true rfl
theorem nfb {p:Prop} {b:Bool} (h:b=false) (g:b=true):p:=absurd (h.symm.trans g) Bool.false_ne_true
theorem e2g (e:Int) (he:e≠0) (w:ByteArray):Ax.Pure Tryz.prog G 25 [S (bs []),N e,N e,S w] (Bo true):=by
  have hb:=b3i []
  refine r8 Tryz.func25 rfl Tryz.ntmps25 ?_
  intro w0 E0 hc
  repeat' (first|refine n7 hc Tryz.results25 ?_|(with_reducible first|exact trivial|refine j3 ?_ ?_|refine m8 (fun h=>?_)|fail)|((first|omega|exact nfb h hb);done))
  all_goals exact j6 (congrArg Bo (by simp))
theorem l_num_ok {k:Nat} (hk:k≤1000000) (q:Rat) (hq:Q k q):Ax.Pure Tryz.prog G 25 [S (bs (txl (y4 q) q)),N (exl (y4 q)),N 0,S (bs (c5 q))] (Bo true):=by
  have c_l:=d05 q hq hk
  have hb:=b3i (c5 q)
  have hb0:=b3i []
  cases h:y4 q <;> rw [h] at c_l <;> simp only [if_true,Bool.false_eq_true,if_false] at c_l
  · show Ax.Pure Tryz.prog G 25 [S (bs (c5 q)),N 0,N 0,S (bs (c5 q))] (Bo true)
    refine r8 Tryz.func25 rfl Tryz.ntmps25 ?_
    intro w0 E0 hc
    repeat' (first|refine n7 hc Tryz.results25 ?_|(with_reducible first|exact trivial|refine j3 ?_ ?_|refine m8 (fun h=>?_)|refine c9 c_l ?_ ?_|fail)|((first|omega|exact nfb h hb0);done))
    all_goals exact j6 (congrArg Bo (by simp))
  · show Ax.Pure Tryz.prog G 25 [S (bs []),N 4,N 0,S (bs (c5 q))] (Bo true)
    refine r8 Tryz.func25 rfl Tryz.ntmps25 ?_
    intro w0 E0 hc
    repeat' (first|refine n7 hc Tryz.results25 ?_|(with_reducible first|exact trivial|refine j3 ?_ ?_|refine m8 (fun h=>?_)|refine c9 c_l ?_ ?_|fail)|((first|omega|exact nfb h hb0);done))
    all_goals exact j6 (congrArg Bo (by simp))
theorem d8t (l:List Int) (hl:l.length≤1000000):Ax.Pure Tryz.prog G 30 [L64 l] (N (u5 l)):=by
  refine r8 Tryz.func30 rfl Tryz.ntmps30 ?_
  intro w0 E0 hc
  repeat' (first|refine n7 hc Tryz.results30 ?_|(with_reducible first|exact trivial|refine j3 ?_ ?_|refine m8 (fun h=>?_)|fail)|(omega;done))
  refine m9 (α:=Nat) (fun i=>n5 [(0,L64 l),(3,N i)] [] 0) (fun i=>i≤l.length∧u5 l=u5 (l.drop i)) (fun i=>l.length - i) 0 ⟨Nat.zero_le _,rfl⟩ ?_ ?_
  · refine zW1 ?_ <;> repeat' (with_reducible first|exact trivial|refine j3 ?_ ?_|refine t7 (fun i hi=>?_))
  · rintro i ⟨h1,h2⟩
    have hd:=fun h:i < l.length=>a4n h
    repeat' (first|refine n7 hc Tryz.results30 ?_|(with_reducible first|exact trivial|refine j3 ?_ ?_|refine m8 (fun h=>?_)|fail)|(omega;done))
    · have hd':=hd (by omega)
      rw [if_neg h] at hd'
      exact j6 (by rw [h2,hd'])
    · have hd':=hd (by omega)
      rw [if_pos h] at hd'
      refine ⟨i+1,⟨by omega,by rw [h2,hd']⟩,by omega,?_⟩
      refine zW1 ?_ <;> repeat' (with_reducible first|exact trivial|refine j3 ?_ ?_|refine t7 (fun i hi=>?_))
    · have:l.length≤i:=by omega
      rw [List.drop_eq_nil_of_le this] at h2
      exact j6 (by rw [h2];rfl)
theorem l_first2 (a b:Int):Ax.Pure Tryz.prog G 30 [.one (.row 1 2 (fun i=> [[i7.v (.int .i64 a)],[i7.v (.int .i64 b)]].getD i []))] (N (u5 [a,b])):=
  w8 (d8t [a,b] (show 2≤1000000 by decide)) ⟨a3p [a,b],trivial⟩ ⟨trivial,trivial⟩
def shV (n:Nat) (v:V3):Prop:=v.1.length≤n∧v.2.1.length≤n∧v.2.2.length≤n
instance (n:Nat) (v:V3):Decidable (shV n v):=by unfold shV;infer_instance
end Go.Proofs
end
section
set_option maxHeartbeats 4000000
set_option maxRecDepth 100000
namespace Go.Proofs
open Go.Ax
theorem c4f (n:Int) (h:i64 n):Ax.Pure Tryz.prog G 160 [N n] (S (bs (c5 (n:Rat)))):=by
  rw [b97];exact d2s n h.1 (by have:=h.2;omega)
theorem c4g (x y z:Int) (hx:i64 x) (hy:i64 y) (hz:i64 z):Ax.Pure Tryz.prog G 176 [N x,N y,N z] (tV (c5 (x:Rat)) (c5 (y:Rat)) (c5 (z:Rat))):=by
  have c_1:=c4f x hx
  have c_2:=c4f y hy
  have c_3:=c4f z hz
  refine r8 Tryz.func176 rfl Tryz.ntmps176 ?_
  intro w0 E0 hc
  repeat' (first|refine n7 hc Tryz.results176 ?_|(with_reducible first|exact trivial|refine j3 ?_ ?_|refine m8 (fun h=>?_)|refine c9 c_1 ?_ ?_|refine c9 c_2 ?_ ?_|refine c9 c_3 ?_ ?_|fail)|(omega;done))
end Go.Proofs
end
