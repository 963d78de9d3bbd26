/- Lemmas on the program and its library, part Ax19. -/
import Derived.RangeFuncNested
import Derived.Test.YtalgbhjnbgkneaaGreatDoorZAuto2
set_option linter.unusedVariables false
set_option linter.unusedSimpArgs false
section
namespace Go.Ax
open Go.RowKit (Below)
structure KeepY (n0:Nat) (X Y:Nat→Prop) (w w':World):Prop where
  os:w'.os=w.os
  tape:w'.tape=w.tape
  output:w'.output=w.output
  size:w.heap.size≤w'.heap.size
  low:∀k,k < n0→¬X k→w'.heap[k]?=w.heap[k]?
  own:∀k,Y k→w'.heap[k]?=w.heap[k]?
structure KeepJ (Y:Nat→Prop) (w w':World):Prop where
  os:w'.os=w.os
  tape:w'.tape=w.tape
  output:w'.output=w.output
  size:w.heap.size≤w'.heap.size
  heap:∀k,k < w.heap.size→¬Y k→w'.heap[k]?=w.heap[k]?
def addY (Y:Nat→Prop) (w w':World) (k:Nat):Prop:=Y k∨(w.heap.size≤k∧k < w'.heap.size)
def StabJ (J:(Nat→Prop)→World→Prop):Prop:=∀Y w w',J Y w→KeepJ Y w w'→J (addY Y w w') w'
def ghJ (X:Nat→Prop) (n0:Nat) (J:(Nat→Prop)→World→Prop):Env→World→Prop:=fun E w=>(∀k,X k→E.M k)∧(∀k,E.M k→k < w.heap.size)∧n0≤w.heap.size∧J (fun k=>n0≤k∧k < w.heap.size∧¬E.M k) w
theorem ghJ_stab {c:Ctx} {J:(Nat→Prop)→World→Prop} (hJ:StabJ J):∀E w E' w',ghJ c.W c.w0.heap.size J E w→SameM c E w E' w'→ghJ c.W c.w0.heap.size J E' w':=by
  rintro E w E' w' ⟨h1,h2,h3,h4⟩ s
  refine ⟨fun k hk=>by rw [s.M];exact h1 k hk,fun k hk=>?_,Nat.le_trans h3 s.size,?_⟩
  · rw [s.M] at hk;exact Nat.lt_of_lt_of_le (h2 k hk) s.size
  · have:=hJ _ w w' h4 ⟨s.os,s.tape,s.output,s.size,fun k hk hY=>?_⟩
    · have e:addY (fun k=>c.w0.heap.size≤k∧k < w.heap.size∧¬E.M k) w w'=fun k=>c.w0.heap.size≤k∧k < w'.heap.size∧¬E'.M k:=by
        funext k
        rw [s.M]
        refine propext ⟨fun h=>?_,fun h=>?_⟩
        · rcases h with ⟨g1,g2,g3⟩|⟨g1,g2⟩
          · exact ⟨g1,Nat.lt_of_lt_of_le g2 s.size,g3⟩
          · exact ⟨by omega,g2,fun h=>by have:=h2 k h;omega⟩
        · obtain ⟨g1,g2,g3⟩:=h
          rcases Nat.lt_or_ge k w.heap.size with h|h
          · exact .inl ⟨g1,h,g3⟩
          · exact .inr ⟨h,g2⟩
      rw [e] at this;exact this
    · rcases Nat.lt_or_ge k c.w0.heap.size with h|h
      · by_cases hX:c.W k
        · exact s.heap k (h1 k hX)
        · exact s.low k h hX
      · by_cases hM:E.M k
        · exact s.heap k hM
        · exact absurd ⟨h,hk,hM⟩ hY
variable {c:Ctx} {st:St}
theorem SR.yielded (hc:CtxOk c) (hns:c.ns=0) (hdf:c.defs≠[]) {E:Env} {a:Act} {w W:World} (s:SR c st E a w) {J J':(Nat→Prop)→World→Prop} (hg:st.gh=ghJ c.W c.w0.heap.size J) (hJ':StabJ J')
    (hk:KeepY c.w0.heap.size c.W (fun k=>c.w0.heap.size≤k∧k < w.heap.size∧¬E.M k) w W) (hj:J' (fun k=>c.w0.heap.size≤k∧k < w.heap.size∧¬E.M k) W) :
    SR c { st with gh:=ghJ c.W c.w0.heap.size J' } { E with M:=fun k=>E.M k∨(w.heap.size≤k∧k < W.heap.size) } a W:=by
  have hgh:=s.gh.1
  rw [hg] at hgh
  obtain ⟨h1,h2,h3,_⟩:=hgh
  have hsame:∀k,k < w.heap.size→¬E.M k→W.heap[k]?=w.heap[k]?:=fun k hlt hM=>by
    rcases Nat.lt_or_ge k c.w0.heap.size with h|h
    · exact hk.low k h fun hX=>hM (h1 k hX)
    · exact hk.own k ⟨h,hlt,hM⟩
  have hkeep:Keeps E w { E with M:=fun k=>E.M k∨(w.heap.size≤k∧k < W.heap.size) } W:=
    ⟨fun _ _ h=>h,fun k h=>⟨Nat.lt_of_lt_of_le h.1 hk.size,fun hM=>by
      rcases hM with hM|hM
      · exact h.2.1 hM
      · have:=h.1;omega,h.2.2⟩,fun k h=>hsame k h.1 h.2.1⟩
  refine ⟨s.size,?_,fun n=>hkeep.rv (s.slots n),fun b bx hb=>(s.boxes b bx hb).keeps hkeep fun k hbk=>hsame k (s.env.r _ _ hbk) (s.ownM b k (by omega) hbk),
    ⟨fun k h=>?_,fun b k h=>Nat.lt_of_lt_of_le (s.env.r b k h) hk.size,s.env.inj⟩,⟨hk.os.trans s.below.os,hk.tape.trans s.below.tape,hk.output.trans s.below.output,Nat.le_trans s.below.size hk.size,fun k h hW=>(hk.low k h hW).trans (s.below.block k h hW)⟩,
    s.own,s.low,⟨fun k h=>.inl (s.m.1 k h),fun k h=>?_⟩,s.free,fun b k h0 h=>?_,⟨⟨fun k h=>.inl (h1 k h),fun k h=>?_,Nat.le_trans h3 hk.size,?_⟩,ghJ_stab hJ'⟩⟩
  · obtain ⟨ms,q1,q2,_⟩:=s.defers
    have q3:=q2.resolve_left hdf
    subst q3
    rw [q1];exact defR_nil
  · rcases h with h|h
    · exact Nat.lt_of_lt_of_le (s.env.m k h) hk.size
    · exact h.2
  · rcases h with h|h
    · exact s.m.2 k h
    · exact .inr (Nat.le_trans s.below.size h.1)
  · intro hM
    rcases hM with hM|hM
    · exact s.ownM b k h0 h hM
    · have:=s.env.r b k h;omega
  · rcases h with h|h
    · exact Nat.lt_of_lt_of_le (h2 k h) hk.size
    · exact h.2
  · have e:(fun k=>c.w0.heap.size≤k∧k < W.heap.size∧¬(E.M k∨(w.heap.size≤k∧k < W.heap.size)))=fun k=>c.w0.heap.size≤k∧k < w.heap.size∧¬E.M k:=by
      funext k
      refine propext ⟨fun ⟨g1,g2,g3⟩=>⟨g1,?_,fun h=>g3 (.inl h)⟩,fun ⟨g1,g2,g3⟩=>⟨g1,Nat.lt_of_lt_of_le g2 hk.size,fun h=>?_⟩⟩
      · rcases Nat.lt_or_ge k w.heap.size with h|h
        · exact h
        · exact absurd (.inr ⟨h,g2⟩) g3
      · rcases h with h|h
        · exact g3 h
        · omega
    show J' (fun k=>c.w0.heap.size≤k∧k < W.heap.size∧¬(E.M k∨(w.heap.size≤k∧k < W.heap.size))) W
    rw [e];exact hj
end Go.Ax
end
section
namespace Go.Ax
open Go.RowKit (Below)
structure MidR (c:Ctx) (st:St) (n0:Nat) (X Y:Nat→Prop) (E:Env) (a:Act) (W:World):Prop where
  sr:SR c st E a W
  y:∀k,Y k→n0≤k∧k < W.heap.size∧E.M k
  x:∀b k,E.ρ b=some k→k < n0→X k
  size:n0≤W.heap.size
theorem MidR.later {c:Ctx} {st:St} {n0:Nat} {X Y:Nat→Prop} {E:Env} {a:Act} {W W':World} (h:MidR c st n0 X Y E a W) (hns:c.ns=0) (hn0:c.w0.heap.size≤n0) (hg:st.gh=tru) (hm:∀ms,a.defers=List.map mkD ms→∀D∈ms,D < n0) (hk:KeepJ Y W W') :
    MidR c st n0 X (addY Y W W') { E with M:=fun k=>E.M k∨(W.heap.size≤k∧k < W'.heap.size) } a W':=by
  have s:=h.sr
  have hnY:∀k,¬E.M k→¬Y k:=fun k hM hY=>hM (h.y k hY).2.2
  have hkeep:Keeps E W { E with M:=fun k=>E.M k∨(W.heap.size≤k∧k < W'.heap.size) } W':=
    ⟨fun _ _ h=>h,fun k hk'=>⟨Nat.lt_of_lt_of_le hk'.1 hk.size,fun hM=>by
      rcases hM with hM|hM
      · exact hk'.2.1 hM
      · have:=hk'.1;omega,hk'.2.2⟩,fun k hk'=>hk.heap k hk'.1 (hnY k hk'.2.1)⟩
  refine ⟨⟨s.size,?_,fun n=>hkeep.rv (s.slots n),fun b bx hb=>(s.boxes b bx hb).keeps hkeep fun k hbk=>hk.heap k (s.env.r _ _ hbk) (hnY k (s.ownM b k (by omega) hbk)),
    ⟨fun k h=>?_,fun b k h=>Nat.lt_of_lt_of_le (s.env.r b k h) hk.size,s.env.inj⟩,⟨hk.os.trans s.below.os,hk.tape.trans s.below.tape,hk.output.trans s.below.output,Nat.le_trans s.below.size hk.size,fun k hk' hW=>(hk.heap k (Nat.lt_of_lt_of_le hk' s.below.size) (fun hY=>by have:=(h.y k hY).1;omega)).trans (s.below.block k hk' hW)⟩,
    s.own,s.low,⟨fun k h=>.inl (s.m.1 k h),fun k h=>?_⟩,s.free,fun b k h0 h=>?_,by rw [hg];exact ghR_tru⟩,fun k hY=>?_,h.x,Nat.le_trans h.size hk.size⟩
  · obtain ⟨ms,q1,q2,q3,q4⟩:=s.defers
    refine ⟨ms,q1,q2,q3,fun D hD=>?_⟩
    obtain ⟨r1,r2,r3⟩:=q4 D hD
    have hlt:=hm ms q1 D hD
    exact ⟨.inl r1,r2,(hk.heap D (Nat.lt_of_lt_of_le hlt h.size) (fun hY=>by have:=(h.y D hY).1;omega)).trans r3⟩
  · rcases h with h|h
    · exact Nat.lt_of_lt_of_le (s.env.m k h) hk.size
    · exact h.2
  · rcases h with h|h
    · exact s.m.2 k h
    · exact .inr (Nat.le_trans s.below.size h.1)
  · intro hM
    rcases hM with hM|hM
    · exact s.ownM b k h0 h hM
    · have:=s.env.r b k h;omega
  · rcases hY with hY|hY
    · obtain ⟨h1,h2,h3⟩:=h.y k hY
      exact ⟨h1,Nat.lt_of_lt_of_le h2 hk.size,.inl h3⟩
    · exact ⟨Nat.le_trans h.size hY.1,hY.2,.inr hY⟩
def roundC (c:Ctx) (K:Nat) (W:World) (E:Env):Ctx:=⟨c.P,c.tt,c.G,c.N,W,E.cut K,K,fun k=>∃b,E.ρ b=some k,0,[mkD 0]⟩
theorem SR.busy {c:Ctx} {K:Nat} {W W1:World} {E E1:Env} {st st1:St} {a a1:Act} (hns:c.ns=0) (s:SR c st E a W) (s1:SR (roundC c K W E) st1 E1 a1 W1) {l:Nat} {ob:Obj} (hl:E.M l) :
    SR (roundC c K (W1.putObj l ob) E1) { st1 with gh:=tru } E1 a1 (W1.putObj l ob)∧(∀b k,E1.ρ b=some k→k < W.heap.size→∃b',E.ρ b'=some k)∧(∀k,E.M k→E1.M k)∧(∀k,E1.M k→E.M k∨W.heap.size≤k)∧(∀b,b < K→E1.ρ b=E.ρ b):=by
  have hM1:E1.M l:=s1.m.1 l hl
  have hne:∀k,k≠l→(W1.putObj l ob).heap[k]?=W1.heap[k]?:=fun k h=>World.putObj_heap_other h
  have hsz:(W1.putObj l ob).heap.size=W1.heap.size:=by simp [World.putObj]
  have hk:Keeps E1 W1 E1 (W1.putObj l ob):=⟨fun _ _ h=>h,fun k h=>⟨by rw [hsz];exact h.1,h.2⟩,fun k h=>hne k fun e=>h.2.1 (e ▸ hM1)⟩
  refine ⟨⟨s1.size,?_,fun n=>hk.rv (s1.slots n),fun b bx hb=>(s1.boxes b bx hb).keeps hk fun k hbk=>hne k fun e=>s1.ownM b k (Nat.zero_le _) hbk (e ▸ hM1),⟨fun k h=>by rw [hsz];exact s1.env.m k h,fun b k h=>by rw [hsz];exact s1.env.r b k h,s1.env.inj⟩,
    BelowX.refl _,fun b k _ hb=>.inr ⟨⟨b,hb⟩,s1.ownM b k (Nat.zero_le _) hb⟩,fun b hb=>?_,⟨fun _ h=>h,fun _ h=>.inl h⟩,fun b hb=>s1.free b hb,fun b k _ hb=>s1.ownM b k (Nat.zero_le _) hb,ghR_tru⟩,fun b k hb hlt=>?_,s1.m.1,s1.m.2,fun b hb=>?_⟩
  · obtain ⟨ms,q1,q2,_⟩:=s1.defers
    have q3:=q2.resolve_left (by simp [roundC])
    subst q3
    rw [q1];exact defR_nil
  · have hb:b < K:=hb
    show E1.ρ b=(E1.cut K).ρ b
    simp only [Env.cut]
    rw [if_pos hb]
  · rcases s1.own b k (Nat.zero_le _) hb with h|h
    · exact absurd h (Nat.not_le.2 hlt)
    · exact h.1
  · have:=s1.low b hb
    have e:(E.cut K).ρ b=E.ρ b:=by simp only [Env.cut];rw [if_pos hb]
    exact this.trans e
theorem SR.behind {c:Ctx} {K:Nat} {W W1 W2:World} {E E1 E2:Env} {st st1 st2:St} {a a1 a2:Act} (hc:CtxOk c) (hns:c.ns=0) (s:SR c st E a W) (s1:SR (roundC c K W E) st1 E1 a1 W1) {l:Nat} {ob ob2:Obj} (hl:E.M l) (hl0:c.w0.heap.size≤l)
    (s2:SR (roundC c K (W1.putObj l ob) E1) st2 E2 a2 W2) (hK:c.nb0≤K) (hcl:∀m,(st.t m).cl K) {hs:List (Nat×Box)} {nb:Nat} (hw:Weaker K st2 (stOf [] hs nb)) (hms:∀ms,a.defers=List.map mkD ms→∀D∈ms,D≠l) :
    SR c ⟨st.t,boxes hs,nb,tru⟩ (E2.cut nb) a (W2.putObj l ob2)∧(∀b k,(E2.cut nb).ρ b=some k→k < W.heap.size→∃b',E.ρ b'=some k)∧(∀k,E.M k→(E2.cut nb).M k)∧W.heap.size≤W2.heap.size∧
      (∀k,k < W.heap.size→(¬∃b,E.ρ b=some k)→k≠l→(W2.putObj l ob2).heap[k]?=W.heap[k]?)∧W2.os=W.os∧W2.tape=W.tape∧W2.output=W.output∧(l < W1.heap.size→W2.heap[l]?=some ob):=by
  obtain ⟨sb,b1,b2,b3,b4⟩:=s.busy hns s1 hl (ob:=ob)
  have hne:∀k,k≠l→(W1.putObj l ob).heap[k]?=W1.heap[k]?:=fun k h=>World.putObj_heap_other h
  have hsz:(W1.putObj l ob).heap.size=W1.heap.size:=by simp [World.putObj]
  have hne2:∀k,k≠l→(W2.putObj l ob2).heap[k]?=W2.heap[k]?:=fun k h=>World.putObj_heap_other h
  have hsz2:(W2.putObj l ob2).heap.size=W2.heap.size:=by simp [World.putObj]
  have z1:W.heap.size≤W1.heap.size:=s1.below.size
  have z2:W1.heap.size≤W2.heap.size:=by have:=s2.below.size;rw [show (roundC c K (W1.putObj l ob) E1).w0=W1.putObj l ob from rfl,hsz] at this;exact this
  have hM2:E2.M l:=s2.m.1 l (b2 l hl)
  have s2':=hw.sr (c:=roundC c K (W1.putObj l ob) E1) s2
  have own2:∀b k,E2.ρ b=some k→k < W.heap.size→∃b',E.ρ b'=some k:=fun b k hb hlt=>by
    rcases s2.own b k (Nat.zero_le _) hb with h|h
    · have h:(W1.putObj l ob).heap.size≤k:=h
      omega
    · obtain ⟨⟨b',hb'⟩,_⟩:=h
      exact b1 b' k hb' hlt
  have cutρ:∀b k,(E2.cut nb).ρ b=some k→E2.ρ b=some k:=fun b k h=>by
    simp only [Env.cut] at h
    split at h
    · exact h
    · cases h
  have same:∀k,k < W.heap.size→(¬∃b,E.ρ b=some k)→k≠l→(W2.putObj l ob2).heap[k]?=W.heap[k]?:=fun k hlt hno hkl=>by
    rw [hne2 k hkl]
    refine (s2.below.block k (by show k < (W1.putObj l ob).heap.size;omega) (fun ⟨b,hb⟩=>hno (b1 b k hb hlt))).trans ?_
    exact (hne k hkl).trans (s1.below.block k hlt hno)
  have hlb:W.heap.size≤W2.heap.size:=Nat.le_trans z1 z2
  -- the slots
  have hrest:Into K E { ρ:=(E.cut K).ρ,M:=fun k=>E.M k∨∃b,E.ρ b=some k } W:=by
    refine ⟨fun b k hb h=>by simp [Env.cut,hb,h],fun k hk=>⟨hk.1,fun h=>?_,fun b hb=>?_⟩⟩
    · rcases h with h|⟨b,hb⟩
      · exact hk.2.1 h
      · exact hk.2.2 b hb
    · have hb:(E.cut K).ρ b=some k:=hb
      simp only [Env.cut] at hb
      split at hb
      · exact hk.2.2 b hb
      · cases hb
  have hKn:K≤nb:=hw.nb
  have hkeep:Keeps { ρ:=(E.cut K).ρ,M:=fun k=>E.M k∨∃b,E.ρ b=some k } W (E2.cut nb) (W2.putObj l ob2):=by
    refine ⟨fun b k h=>?_,fun k hk=>⟨by rw [hsz2];exact Nat.lt_of_lt_of_le hk.1 hlb,fun hM=>?_,fun b hb=>?_⟩,fun k hk=>same k hk.1 (fun h=>hk.2.1 (.inr h)) (fun e=>hk.2.1 (.inl (e ▸ hl)))⟩
    · have h:(E.cut K).ρ b=some k:=h
      simp only [Env.cut] at h ⊢
      split at h
      · rename_i hb
        rw [if_pos (by omega)]
        have h4:=s2.low b hb
        have e:(E1.cut K).ρ b=E1.ρ b:=by simp only [Env.cut];rw [if_pos hb]
        have h4:E2.ρ b=(E1.cut K).ρ b:=h4
        rw [h4,e,b4 b hb];exact h
      · cases h
    · have hM:E2.M k:=hM
      rcases s2.m.2 k hM with h|h
      · have h:E1.M k:=h
        rcases b3 k h with h|h
        · exact hk.2.1 (.inl h)
        · have:=hk.1;omega
      · have h:(W1.putObj l ob).heap.size≤k:=h
        have:=hk.1;omega
    · exact hk.2.1 (.inr (own2 b k (cutρ b k hb) hk.1))
  have hk2:Keeps (E2.cut nb) W2 (E2.cut nb) (W2.putObj l ob2):=⟨fun _ _ h=>h,fun k h=>⟨by rw [hsz2];exact h.1,h.2⟩,fun k h=>hne2 k fun e=>h.2.1 (e ▸ hM2)⟩
  refine ⟨⟨s.size,?_,fun n=>hkeep.rv (hrest.rv (hcl n) (s.slots n)),fun b bx hb=>(s2'.boxes b bx hb).keeps hk2 fun k hbk=>hne2 k fun e=>s2.ownM b k (Nat.zero_le _) (cutρ b k hbk) (e ▸ hM2),⟨fun k h=>by rw [hsz2];exact s2'.env.m k h,fun b k h=>by rw [hsz2];exact s2'.env.r b k h,s2'.env.inj⟩,?_,fun b k h0 hb=>?_,fun b hb=>?_,⟨fun k h=>s2.m.1 k (b2 k (s.m.1 k h)),fun k h=>?_⟩,fun b hb=>?_,fun b k _ hb=>s2'.ownM b k (Nat.zero_le _) hb,ghR_tru⟩,
    fun b k hb=>own2 b k (cutρ b k hb),fun k h=>s2.m.1 k (b2 k h),hlb,same,s2.below.os.trans s1.below.os,s2.below.tape.trans s1.below.tape,s2.below.output.trans s1.below.output,fun hlt=>?_⟩
  · obtain ⟨ms,q1,q2,q3,q4⟩:=s.defers
    refine ⟨ms,q1,q2,q3,fun D hD=>?_⟩
    obtain ⟨r1,r2,r3⟩:=q4 D hD
    have hDl:=hms ms q1 D hD
    refine ⟨s2.m.1 D (b2 D r1),r2,(same D (s.env.m D r1) (fun ⟨b,hb⟩=>s.ownM b D (by omega) hb r1) hDl).trans r3⟩
  · refine ⟨s2.below.os.trans (s1.below.os.trans s.below.os),s2.below.tape.trans (s1.below.tape.trans s.below.tape),s2.below.output.trans (s1.below.output.trans s.below.output),by rw [hsz2];exact Nat.le_trans s.below.size hlb,fun k hk hW=>?_⟩
    refine (same k (Nat.lt_of_lt_of_le hk s.below.size) (fun ⟨b,hb⟩=>?_) (by omega)).trans (s.below.block k hk hW)
    rcases s.own b k (by omega) hb with h|h
    · omega
    · exact hW h.1
  · rcases Nat.lt_or_ge k W.heap.size with h|h
    · obtain ⟨b',hb'⟩:=own2 b k (cutρ b k hb) h
      exact s.own b' k (by omega) hb'
    · exact .inl (Nat.le_trans s.below.size h)
  · have hbK:b < K:=Nat.lt_of_lt_of_le hb hK
    show (E2.cut nb).ρ b=c.E0.ρ b
    have e2:(E2.cut nb).ρ b=E2.ρ b:=by simp only [Env.cut];rw [if_pos (by omega)]
    have e:(E1.cut K).ρ b=E1.ρ b:=by simp only [Env.cut];rw [if_pos hbK]
    have h4:E2.ρ b=(E1.cut K).ρ b:=s2.low b hbK
    rw [e2,h4,e,b4 b hbK];exact s.low b hb
  · have h:E2.M k:=h
    rcases s2.m.2 k h with h|h
    · have h:E1.M k:=h
      rcases b3 k h with h|h
      · exact s.m.2 k h
      · exact .inr (Nat.le_trans s.below.size h)
    · have h:(W1.putObj l ob).heap.size≤k:=h
      exact .inr (by have:=s.below.size;omega)
  · have hb:nb≤b:=hb
    show (E2.cut nb).ρ b=none
    simp only [Env.cut]
    rw [if_neg (by omega)]
  · have:=s2.below.block l (by show l < (W1.putObj l ob).heap.size;omega) (fun ⟨b,hb⟩=>s1.ownM b l (Nat.zero_le _) hb (b2 l hl))
    rw [this]
    exact World.putObj_heap_same hlt
end Go.Ax
end
