/- Lemmas on the program and its library, part NL. -/
import Derived.Test.YtalgbhjnbgkneaaGreatDoorZN3
import Derived.Test.YtalgbhjnbgkneaaGreatDoorZN4
import Derived.Test.YtalgbhjnbgkneaaGreatDoorZN5
import Derived.Test.YtalgbhjnbgkneaaGreatDoorZN6
import Derived.Test.YtalgbhjnbgkneaaGreatDoorZNA
set_option linter.unusedVariables false
set_option linter.unusedSimpArgs false
section
namespace Go.Proofs
open Go.Ax
theorem errL_cons (x:Int) (l:List Int):errL (x :: l)=if badN x then 3 else errL l:=by
  unfold errL badL
  rw [List.any_cons]
  cases badN x <;> rfl
theorem w_Logs (w h d:Int):Ax.Pure Tryz.prog G 10 [N w,N h,N d] (Bo true):=by
  have e0:errL []=0:=rfl
  have aw:=c_awake
  by_cases hA:80 < d∧d≤10000
  · exact logs_a aw w h d hA.1 hA.2
  have c_F:=c_Fits w h d
  have c_H:=c_Highest d w
  have c_S:=c_Strongest d
  have r_1:=r_Size3 w h d
  have r_2:=r_Size1 d
  have r_3:=r_Size1 w
  have e3:=errL_cons w [h,d]
  have e3':=errL_cons h [d]
  have e2:=errL_cons d [w]
  have e1:=errL_cons d []
  have ew:=errL_cons w []
  rw [e0] at e1 ew
  have k1:¬((3:Int)=0):=by decide
  have k0:((0:Int)=0):=rfl
  have fin3:errL [w,h,d]=3→Ax.Pure Tryz.prog G 49 [N w,N h,N d] (.tup [Bo false,N 3]):=fun e=>by rw [e,if_neg k1] at c_F;exact c_F
  have hin3:errL [d,w]=3→Ax.Pure Tryz.prog G 50 [N d,N w] (.tup [N 0,N 3]):=fun e=>by rw [e,if_neg k1,if_neg k1] at c_H;exact c_H
  have n3:Ax.Pure Tryz.prog G 24 [N 0,N 3,N 3,N 0] (Bo true):=l_number 0 3 3 0
  by_cases b1:badN d=true
  · rw [if_pos b1] at e1 e2
    rw [e1] at e3' r_2 c_S
    have e4:errL [w,h,d]=3:=by rw [e3,e3'];cases badN w <;> cases badN h <;> rfl
    rw [e4] at r_1
    rw [if_neg k1,if_neg k1,if_neg k1] at c_S
    exact logs_b aw w h d hA (fin3 e4) (hin3 e2) c_S r_1 r_2 n3
  · rw [if_neg b1] at e1 e2
    have hd:=badN_in (by simpa using b1)
    have hA:¬80 < d:=by omega
    obtain ⟨n,rfl⟩:∃n:Nat,d=n:=⟨d.toNat,by omega⟩
    have c_X:=r_Strongest n (by omega)
    rw [e1,if_pos k0,if_pos k0,if_pos k0,Int.toNat_natCast] at c_S
    rw [e1] at e3' r_2
    obtain ⟨k,hk1,hk2,_⟩:=stB_in n
    rw [hk2] at c_S c_X
    have hx:((k:Int)=0∧(if (k:Int)=0 then (0:Int) else ((sid n (k:Int).toNat:Nat):Int))=0∧(if (k:Int)=0 then (7:Int) else 0)=7)∨((k:Int)≠0∧(if (k:Int)=0 then (7:Int) else 0)=0):=by
      by_cases hk:(k:Int)=0
      · exact .inl ⟨hk,if_pos hk,if_pos hk⟩
      · exact .inr ⟨hk,if_neg hk⟩
    by_cases b2:badN w=true
    · rw [if_pos b2] at ew e3
      rw [ew] at e2 r_3
      rw [e3] at r_1
      exact logs_c aw w h n _ _ _ hA (fin3 e3) (hin3 e2) c_S hx r_1 r_2 n3 c_X r_3
    · rw [if_neg b2] at ew e3
      rw [ew] at e2 r_3
      have hw:=badN_in (by simpa using b2)
      obtain ⟨m,rfl⟩:∃m:Nat,w=m:=⟨w.toNat,by omega⟩
      rw [e2,if_pos k0,if_pos k0,Int.toNat_natCast,Int.toNat_natCast] at c_H
      have c_9:=r_Highest n m (by omega) (by omega)
      have c_w:Ax.Pure Tryz.prog G 33 [Bo (((sid n m:Nat):Int) == 0),N 7] (N (if sid n m=0 then 7 else 0)):=by
        have:=l_when (((sid n m:Nat):Int) == 0) 7
        have e:(if (((sid n m:Nat):Int) == 0)=true then (7:Int) else 0)=if sid n m=0 then 7 else 0:=by
          by_cases hs:sid n m=0 <;> simp [hs]
        rwa [e] at this
      have c_n:Ax.Pure Tryz.prog G 24 [N (sid n m),N (if sid n m=0 then 7 else 0),N (if sid n m=0 then 7 else 0),N (sid n m)] (Bo true):=by
        have:=l_number (sid n m) (if sid n m=0 then 7 else 0) (if sid n m=0 then 7 else 0) (sid n m)
        have e:numB (sid n m) (if sid n m=0 then 7 else 0) (if sid n m=0 then 7 else 0) (sid n m)=true:=by
          unfold numB
          by_cases hs:sid n m=0 <;> simp [hs]
        rwa [e] at this
      by_cases b3:badN h=true
      · rw [if_pos b3] at e3'
        rw [e3'] at e3
        rw [e3] at r_1
        exact logs_d aw m h n _ _ _ _ _ hA c_H c_S hx r_2 c_X r_3 c_9 c_w c_n (fin3 e3) r_1
      · rw [if_neg b3] at e3'
        rw [e3'] at e3
        rw [e3] at r_1
        have hh:=badN_in (by simpa using b3)
        obtain ⟨l,rfl⟩:∃l:Nat,h=l:=⟨h.toNat,by omega⟩
        have c_f:=r_Fits m l n (by omega) (by omega) (by omega)
        rw [e3,if_pos k0] at c_F
        cases e:fitB m l n with
        | false =>
          rw [e] at c_F c_f
          exact logs_e aw m l n _ _ _ _ _ hA c_H c_S hx r_2 c_X r_3 c_9 c_w c_n c_F r_1 c_f
        | true =>
          rw [e] at c_F c_f
          exact logs_f aw m l n _ _ _ _ _ hA c_H c_S hx r_2 c_X r_3 c_9 c_w c_n c_F r_1 c_f
end Go.Proofs
end
