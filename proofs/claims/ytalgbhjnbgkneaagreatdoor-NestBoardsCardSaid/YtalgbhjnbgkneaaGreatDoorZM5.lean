/- Lemmas on the program and its library, part M5. -/
import Derived.Test.YtalgbhjnbgkneaaGreatDoorZM1
import Derived.Test.YtalgbhjnbgkneaaGreatDoorZNA
set_option linter.unusedVariables false
set_option linter.unusedSimpArgs false
section
namespace Go.Proofs
open Go.Ax
theorem r_Size2 (a b:Int):Ax.Pure Tryz.prog G 40 [rw2 a b] (N (errL [a,b])):=
  pure_args (r_Size [a,b] (show 2≤1000000 by decide)) ⟨sub_row_list [a,b],trivial⟩ ⟨trivial,trivial⟩
theorem when_eq {b:Bool} {e x:Int} (h:(if b=true then e else 0)=x):Ax.Pure Tryz.prog G 33 [Bo b,N e] (N x):=h ▸ l_when b e
theorem number_ok (x e:Int) (h:e≠0→x=0):Ax.Pure Tryz.prog G 24 [N x,N e,N e,N x] (Bo true):=by
  have:=l_number x e e x
  have e1:numB x e e x=true:=by
    unfold numB
    by_cases he:e=0
    · simp [he]
    · simp [he,h he]
  rwa [e1] at this
theorem w_Boards (d t k n:Int):Ax.Pure Tryz.prog G 6 [sawA d t k,N n] (Bo true):=by
  have aw:=c_awake
  by_cases hA:120 < d∧d≤10000
  · exact brd_a aw d t k n hA.1 hA.2
  have c_z:=r_Size2 d t
  have n3:Ax.Pure Tryz.prog G 24 [N 0,N 3,N 3,N 0] (Bo true):=number_ok 0 3 (fun _=>rfl)
  by_cases h0:logE d t k=0
  · obtain ⟨g1,g2,g3,g4⟩:=logE_ok h0
    have hx:errL [d,t]=0:=by
      unfold logE at h0
      split at h0
      · assumption
      · rename_i h1;exact absurd h0 h1
    rw [hx] at c_z
    obtain ⟨D,rfl⟩:∃D:Nat,d=D:=⟨d.toNat,by omega⟩
    obtain ⟨m,_,gm,_⟩:=bbB_in D t k 64
    have c_2:=c_BestBoards D t k h0
    have c_4:=r_BestBoards D t k (by omega) (by omega) (by omega) g3 g4
    rw [gm] at c_2 c_4
    have c_w:Ax.Pure Tryz.prog G 33 [Bo (decide (10000 < k)),N 3] (N 0):=when_eq (by simp;omega)
    have c_f:=l_first2 0 0
    rw [if_pos rfl] at c_f
    have c_v:Ax.Pure Tryz.prog G 33 [Bo ((m:Int) == 0),N 7] (N (if (m:Int)=0 then 7 else 0)):=when_eq (by simp)
    have c_6:=number_ok m (if (m:Int)=0 then 7 else 0) (fun h=>by
      by_cases hm:(m:Int)=0
      · exact hm
      · exact absurd (if_neg hm) h)
    by_cases hn:n < 1∨64 < n
    · exact brd_d aw D t k n _ _ hA g3 hn (c_Boards_bad D t k n (.inr hn)) c_2 c_z c_w c_f c_4 c_v c_6
    · obtain ⟨M,rfl⟩:∃M:Nat,n=M:=⟨n.toNat,by omega⟩
      have c_1:=c_Boards D t k M h0 (by omega) (by omega)
      have c_5:=r_Boards D t k M (by omega) (by omega) (by omega) g3 g4 (by omega)
      cases e:bdsOk D t k M M with
      | false =>
        have e1:bdsR D t k M= []:=by unfold bdsR;rw [e];rfl
        rw [e,if_neg Bool.false_ne_true,e1] at c_1
        rw [e,e1] at c_5
        exact brd_e aw D t k M _ _ hA g3 (by omega) c_1 c_2 c_z c_w c_f c_4 c_v c_6 c_5
      | true =>
        rw [e,if_pos rfl] at c_1
        rw [e] at c_5
        refine brd_f aw D t k M _ _ (bdsR D t k M) hA g3 (by omega) c_1 c_2 c_z c_w c_f c_4 c_v c_6 c_5 (r_Same _ ?_)
        unfold bdsR
        rw [if_pos e,bdsL_len]
        omega
  · have h3:=(logE_or d t k).resolve_left h0
    have c_1:=c_Boards_bad d t k n (.inl h0)
    have c_2:=c_BestBoards_bad d t k h0
    rw [h3] at c_2
    by_cases hx:errL [d,t]=0
    · rw [hx] at c_z
      have hk:k < 0∨10000 < k:=by
        unfold logE at h0
        rw [if_pos hx] at h0
        by_cases hk:k < 0∨10000 < k
        · exact hk
        · rw [if_neg hk] at h0;exact absurd rfl h0
      have c_f:=l_first2 0 3
      rw [if_pos rfl] at c_f
      exact brd_c aw d t k n hA c_1 c_2 c_z (fun _=>when_eq rfl) (fun g=>when_eq (if_pos (decide_eq_true (by omega)))) c_f n3
    · have e3:=(errL_or [d,t]).resolve_left hx
      rw [e3] at c_z
      exact brd_b aw d t k n hA 3 c_1 c_2 c_z (fun b=>by have:=l_first2 3 b;rwa [if_neg (by decide)] at this) n3
-- axioms of w_Boards
end Go.Proofs
end
