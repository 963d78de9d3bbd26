/- Lemmas on the program and its library: part ZW35. -/
import Derived.LoopTactic
import Derived.Laws.RangeString
import Derived.Laws.RangeAny
import Derived.Test.YtoiejgkkcfkliaaGreatDoorZShelf
set_option linter.unusedVariables false
set_option linter.unusedSimpArgs false
section
set_option maxHeartbeats 4000000
set_option maxRecDepth 1000000
namespace Go.Proofs
open Go.Ax
open Go.RowKit
def d96 (c:Nat):Bool:=(decide (97≤c) && decide (c≤122)) || (decide (65≤c) && decide (c≤90))
def okC (i c:Nat):Bool:=d96 c || (!(decide (i=0)) && (decide (c=95) || (decide (48≤c) && decide (c≤57))))
def d0w (s:ByteArray) (n:Nat):Prop:=∀i,(h:i < s.size)→i < n→okC i (s[i]'h).toNat=true
def b5a (s:ByteArray):Bool:=decide (0 < s.size) && decide (s.size≤24) && (List.range s.size).all (fun i=>okC i (s.data.getD i 0).toNat)
theorem c6i (s:ByteArray) (i:Nat) (h:i < s.size):s.data.getD i 0=s[i]'h:=by
  show s.data.getD i 0=s.data[i]
  have h':i < s.data.size:=h
  unfold Array.getD
  rw [dif_pos h']
  rfl
theorem d2m {s:ByteArray} (h:d0w s s.size):b5a s=(decide (0 < s.size) && decide (s.size≤24)):=by
  unfold b5a
  rw [List.all_eq_true.2,Bool.and_true]
  intro i hi
  have hi:=List.mem_range.1 hi
  rw [c6i s i hi]
  exact h i hi hi
theorem d2n {s:ByteArray} {i:Nat} (hi:i < s.size) (h:okC i (s[i]'hi).toNat=false):b5a s=false:=by
  unfold b5a
  rw [Bool.and_eq_false_iff]
  refine .inr (List.all_eq_false.2 ⟨i,List.mem_range.2 hi,?_⟩)
  rw [c6i s i hi,h]
  decide
theorem c8m (w:World) (s:ByteArray) (pos:Nat):Below w.heap.size w (w.iter s pos):=(Below.refl _ w).alloc (Nat.le_refl _) _
theorem b8o (i c:Nat):okC i c=true↔((97≤c∧c≤122)∨(65≤c∧c≤90))∨(¬i=0∧(c=95∨(48≤c∧c≤57))):=by
  simp [okC,d96]
theorem d8z (s:ByteArray) (pos:Nat) (h:pos < s.size) :
    (okC pos (Utf8.decode s pos).1=true→(Utf8.decode s pos).2=1∧(Utf8.decode s pos).1=(s[pos]'h).toNat)∧(okC pos (Utf8.decode s pos).1=false→okC pos (s[pos]'h).toNat=false):=by
  by_cases ha:(s[pos]'h).toNat < 128
  · rw [decode_ascii s pos h ha]
    exact ⟨fun _=>⟨rfl,rfl⟩,fun e=>e⟩
  · have hh:=decode_high s pos h (by omega)
    constructor
    · intro e
      have:=(b8o _ _).1 e
      omega
    · intro _
      cases e:okC pos (s[pos]'h).toNat
      · rfl
      · have:=(b8o _ _).1 e
        omega
theorem c8t {s:ByteArray} {pos:Nat} (hp:pos < s.size) (hk:d0w s pos) (h:okC pos (s[pos]'hp).toNat=true):d0w s (pos+1):=fun i hi hlt=>by
  by_cases e:i=pos
  · subst e;exact h
  · exact hk i hi (by omega)
theorem d7n (s:ByteArray) (w:World):Calls Tryz.prog 18 #[.string s] w fun e w'=>e= .returned (.bool (b5a s))∧∃pos,w'=w.iter s pos:=by
  go_enter Tryz.func18,Tryz.ntmps18
  go_wp2
  go_loopw [3] (fun _ w'=>∃(pos:Nat),w'=w.iter s pos∧d0w s pos) (fun _ w'=>s.size - w'.iterPos w.heap.size)
  case atStart=>exact ⟨0,rfl,fun i _ h=>absurd h (Nat.not_lt_zero i)⟩
  case round=>
    obtain ⟨pos,rfl,hk⟩:=hrel
    by_cases hp:pos < s.size
    · have hnx:∀ty,(Instr.next (.pointer (some ⟨w.heap.size,0,none⟩)) true ty).run Tryz.prog (w.iter s pos)=_:=fun ty=>run_next_any w s pos ty hp
      obtain ⟨hT,hF⟩:=d8z s pos hp
      generalize Utf8.decode s pos=cw at *
      obtain ⟨c,wd⟩:=cw
      dsimp only at hnx hT hF
      cases hc:okC pos c
      · have hF:=hF hc
        have hc':=fun h=>Bool.false_ne_true (hc.symm.trans ((b8o pos c).2 h))
        have hR:b5a s=false:=d2n hp hF
        clear hT hF hc hk
        go_wp2
        all_goals first
          | (go_ret;exact ⟨by first|rfl|(rw [hR];rfl),_,rfl⟩)
          | (exfalso;simp at *;omega)
      · obtain ⟨rfl,hce⟩:=hT hc
        have hk':=c8t hp hk (hce ▸ hc)
        have hc':=(b8o pos c).1 hc
        clear hT hF hc hk hce
        go_wp2
        all_goals first
          | exact ⟨⟨pos+1,rfl,hk'⟩,by simp;omega⟩
          | (exfalso;simp at *;omega)
    · have hnx:∀ty,(Instr.next (.pointer (some ⟨w.heap.size,0,none⟩)) true ty).run Tryz.prog (w.iter s pos)=_:=fun ty=>run_next_end w s pos ty hp
      have hR:=d2m (s:=s) fun i hi _=>hk i hi (by omega)
      go_wp2
      all_goals (go_ret;exact ⟨by rw [hR];simp_all <;> omega,_,rfl⟩)
theorem c5y (s:ByteArray):Ax.Pure Tryz.prog G 18 [S s] (Bo (b5a s)):=
  b1j ⟨_,Tryz.func18,by kernel_rfl,by kernel_rfl⟩ trivial (c88 _ rfl) fun w _=>
    (d7n s w).mono fun _ _ ⟨h1,p,h2⟩=>⟨h1,by rw [h2];exact c8m w s p⟩
end Go.Proofs
end
