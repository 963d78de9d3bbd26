/- Lemmas on the program and its library, part Ax11. -/
import Derived.Test.YtalgbhjnbgkneaaGreatDoorZAx10
set_option linter.unusedVariables false
set_option linter.unusedSimpArgs false
section
namespace Go.Ax
open Go.RowKit (Below)
def thawL (b:Nat) (k:IntKind) (n:Nat) (f:Nat→Int):Leaf→Leaf
  | .own b' sz i m c=>if b'=b then (if sz=1∧i+m≤n∧m≤c then .ints k ((List.range m).map fun j=>f (i+j)) else .u) else .own b' sz i m c
  | .gr b' sz m c=>if b'=b then (if sz=1∧m≤n∧m≤c then .ints k ((List.range m).map fun j=>f j) else .u) else .gr b' sz m c
  | .ptr b' sz i o=>if b'=b then .u else .ptr b' sz i o
  | .fn _ _ _=>.u
  | l=>l
mutual
def thaw (b:Nat) (k:IntKind) (n:Nat) (f:Nat→Int):AV→AV
  | .one l=>.one (thawL b k n f l)
  | .agg ls=>.agg (ls.map (thawL b k n f))
  | .tup xs=>.tup (thaws b k n f xs)
  | .u=>.u
def thaws (b:Nat) (k:IntKind) (n:Nat) (f:Nat→Int):List AV→List AV
  | []=> []
  | x :: xs=>thaw b k n f x :: thaws b k n f xs
end
def Env.drop (E:Env) (b:Nat):Env:={ E with ρ:=fun x=>if x=b then none else E.ρ x }
section
variable {E:Env} {w:World} {b n:Nat} {k:IntKind} {f:Nat→Int}
theorem drop_ok {j:Nat} (h:E.ok w j):(E.drop b).ok w j:=
  ⟨h.1,h.2.1,fun x=>by by_cases e:x=b <;> simp [Env.drop,e,h.2.2]⟩
theorem dropshut_into:Into 0 E.shut (E.drop b).shut w:=⟨fun _ _ h=>absurd h (Nat.not_lt_zero _),fun _ h=>shut_ok.2 (drop_ok (shut_ok.1 h))⟩
theorem thawL_R (hb:∀kb,E.ρ b=some kb→(E.drop b).ok w kb∧w.rangeAt kb 0 ((List.range n).map fun i=>Value.int k (f i))) {l:Leaf} {cs:List Value} (h:l.R E w cs):(thawL b k n f l).R (E.drop b) w cs:=by
  have hint:∀{z cs},IntR E w z cs→IntR (E.drop b) w z cs:=fun hx=>by
    rcases hx with hx|⟨ds,b,o,c,rfl,h1,h4⟩
    · exact .inl hx
    · exact .inr ⟨ds,b,o,c,rfl,drop_ok h1,h4⟩
  have hints:∀{k l x},IntsR E w k l x→IntsR (E.drop b) w k l x:=fun hx=>by
    rcases hx with hx|⟨b,o,c,rfl,h1,h4⟩
    · exact .inl hx
    · exact .inr ⟨b,o,c,rfl,drop_ok h1,h4⟩
  cases l with
  | v x=>exact h
  | u=>exact h
  | ptr b' sz i o =>
    obtain ⟨j,h1,rfl⟩:=h
    simp only [thawL]
    split
    · exact ⟨_,rfl,rfl⟩
    · rename_i e;exact ⟨j,by simp [Env.drop,e,h1],rfl⟩
  | own b' sz i m c =>
    obtain ⟨j,h1,rfl⟩:=h
    simp only [thawL]
    split
    · rename_i e;subst e
      obtain ⟨hok,hg⟩:=hb j h1
      split
      · rename_i h2
        obtain ⟨rfl,h3,h4⟩:=h2
        refine ⟨_,rfl,.inr ⟨j,i*1,c,by simp,hok,by simpa using h4,?_⟩⟩
        rw [List.map_map]
        intro d v hv
        have hd:d < m:=by have:=(List.getElem?_eq_some_iff.1 hv).1;simpa using this
        have:((List.range n).map fun i=>Value.int k (f i))[i+d]?=some v:=by
          rw [←hv]
          have h5:i+d < n:=by omega
          simp [hd,h5]
        have:=hg _ _ this
        rw [Nat.mul_one]
        rwa [Nat.zero_add] at this
      · exact ⟨_,rfl,rfl⟩
    · rename_i e;exact ⟨j,by simp [Env.drop,e,h1],rfl⟩
  | gr b' sz m c =>
    simp only [thawL]
    split
    · rename_i e;subst e
      split
      · rename_i h2
        obtain ⟨rfl,h3,h4⟩:=h2
        rcases h with ⟨rfl,rfl,rfl|⟨k0,o0,rfl,h5⟩⟩|⟨j,h1,rfl⟩
        · exact ⟨_,rfl,.inl ⟨rfl,rfl⟩⟩
        · exact ⟨_,rfl,.inr ⟨k0,o0,0,rfl,drop_ok h5,Nat.le_refl _,fun i v h=>by simp at h⟩⟩
        · obtain ⟨hok,hg⟩:=hb j h1
          refine ⟨_,rfl,.inr ⟨j,0,c,by simp,hok,by simpa using h4,?_⟩⟩
          rw [List.map_map]
          intro d v hv
          have hd:d < m:=by have:=(List.getElem?_eq_some_iff.1 hv).1;simpa using this
          have:((List.range n).map fun i=>Value.int k (f i))[d]?=some v:=by
            rw [←hv]
            have h5:d < n:=by omega
            simp [hd,h5]
          exact hg _ _ this
      · rcases h with ⟨rfl,rfl,rfl|⟨_,_,rfl,_⟩⟩|⟨j,h1,rfl⟩<;> exact ⟨_,rfl,rfl⟩
    · rename_i e
      rcases h with h|⟨j,h1,rfl⟩
      · exact .inl ⟨h.1,h.2.1,h.2.2.mono fun _ hk=>drop_ok hk⟩
      · exact .inr ⟨j,by simp [Env.drop,e,h1],rfl⟩
  | pp x=>obtain ⟨b',o,es,a,c,d,e⟩:=h;exact ⟨b',o,es,a,drop_ok c,Into.shutl dropshut_into d,e⟩
  | int z=>exact hint (z:=z) h
  | frac q=>obtain ⟨xs,ys,a,c,d⟩:=h;exact ⟨xs,ys,a,hint c,hint d⟩
  | rint z=>obtain ⟨ds,x,a,c,d⟩:=h;exact ⟨ds,x,a,hints c,d⟩
  | ints k l=>obtain ⟨x,a,c⟩:=h;exact ⟨x,a,hints c⟩
  | nn k l=>obtain ⟨x,a,b',o,c,h1,h2,h3⟩:=h;exact ⟨x,a,b',o,c,h1,drop_ok h2,h3⟩
  | row sz m g =>
    rcases h with h|⟨b',o,c,a,hb',hn,hg'⟩
    · exact .inl h
    · refine .inr ⟨b',o,c,a,drop_ok hb',hn,fun i hi=>?_⟩
      obtain ⟨es,h0,h1,h2⟩:=hg' i hi
      exact ⟨es,h0,Into.shutl dropshut_into h1,h2⟩
  | fn f a c=>obtain ⟨xs,ys,rfl,_⟩:=h;exact ⟨_,rfl,rfl⟩
theorem thawL_size (l:Leaf):(thawL b k n f l).size=l.size:=by
  cases l <;> simp only [thawL] <;> (repeat' split) <;> rfl
theorem thawLs_R (hb:∀kb,E.ρ b=some kb→(E.drop b).ok w kb∧w.rangeAt kb 0 ((List.range n).map fun i=>Value.int k (f i))):∀{ls:List Leaf} {cs:List Value},LeavesR E w ls cs→LeavesR (E.drop b) w (ls.map (thawL b k n f)) cs
  | [],_,h=>h
  | _ :: _,_,h=>by obtain ⟨xs,ys,a,c,d⟩:=h;exact ⟨xs,ys,a,thawL_R hb c,thawLs_R hb d⟩
theorem sizes_thaw:∀(ls:List Leaf),sizes (ls.map (thawL b k n f))=sizes ls
  | []=>rfl
  | l :: ls=>by simp [sizes,thawL_size,sizes_thaw ls]
mutual
theorem thaw_R (hb:∀kb,E.ρ b=some kb→(E.drop b).ok w kb∧w.rangeAt kb 0 ((List.range n).map fun i=>Value.int k (f i))):∀{x:AV} {v:Value},RV E w x v→RV (E.drop b) w (thaw b k n f x) v
  | .one _,_,h=>⟨by rw [thawL_size];exact h.1,thawL_R hb h.2⟩
  | .agg _,_,h=>by obtain ⟨cs,a,c⟩:=h;exact ⟨cs,a,thawLs_R hb c⟩
  | .tup _,_,h=>by obtain ⟨vs,a,c⟩:=h;exact ⟨vs,a,thaws_R hb c⟩
  | .u,_,_=>trivial
theorem thaws_R (hb:∀kb,E.ρ b=some kb→(E.drop b).ok w kb∧w.rangeAt kb 0 ((List.range n).map fun i=>Value.int k (f i))):∀{xs:List AV} {vs:List Value},RVs E w xs vs→RVs (E.drop b) w (thaws b k n f xs) vs
  | [],_,h=>h
  | _ :: _,_,h=>by obtain ⟨v,r,a,c,d⟩:=h;exact ⟨v,r,a,thaw_R hb c,thaws_R hb d⟩
end
end
def thawBox (b:Nat) (k:IntKind) (n:Nat) (f:Nat→Int) (bx:Box):Box:={ bx with g:=fun i=>(bx.g i).map (thawL b k n f) }
variable {c:Ctx} {Q:Exit→St→Prop} {st:St}
theorem Wp_freezeN {code:Code} (hc:CtxOk c) (b:Nat) (hb0:c.nb0≤b) {bx:Box} (hbx:st.h b=some bx) (hsz:bx.sz=1) (n:Nat) (hn:n≤bx.n) (k:IntKind) (f:Nat→Int) (hg:∀i,i < n→bx.g i= [.v (.int k (f i))])
    (h:Wp c code Q ⟨fun m=>thaw b k n f (st.t m),fun x=>if x=b then none else (st.h x).map (thawBox b k n f),st.nb,st.gh⟩):Wp c code Q st:=by
  intro nn ro hro E a w s
  have hbox:=s.boxes b bx hbx
  have hkey:∀kb,E.ρ b=some kb→(E.drop b).ok w kb∧w.rangeAt kb 0 ((List.range n).map fun i=>Value.int k (f i)):=by
    intro kb h1
    have hown:=s.own b kb (Nat.le_trans hc.ns hb0) h1
    refine ⟨⟨s.env.r _ _ h1,fun hM=>?_,fun x hx=>?_⟩,?_⟩
    · have hM:E.M kb:=hM
      exact s.ownM b kb (Nat.le_trans hc.ns hb0) h1 hM
    · by_cases e:x=b
      · simp [Env.drop,e] at hx
      · simp [Env.drop,e] at hx;exact e (s.env.inj _ _ _ hx h1)
    · intro j v hv
      have hj:j < n:=by have:=(List.getElem?_eq_some_iff.1 hv).1;simpa using this
      rcases hbox with ⟨_,h0⟩|⟨kb',cs,T,h1',h2,h3,h4⟩
      · omega
      rw [h1] at h1';cases h1'
      obtain ⟨es,h5,h6,h7⟩:=h4 j (by omega)
      rw [hg j hj] at h6
      obtain ⟨xs,ys,rfl,⟨rfl,_⟩,h9⟩:=h6
      obtain rfl:ys= []:=h9
      have:=h7 0 (.int k (f j)) rfl
      rw [cell_of_row w kb _ cs T (0,0) h2]
      rw [hsz] at this
      simp only [Nat.mul_one,Nat.add_zero] at this
      rw [Nat.zero_add,this,←hv]
      simp [hj]
  refine h nn ro hro (E.drop b) a w ⟨s.size,s.defers,fun m=>thaw_R hkey (s.slots m),fun x bx' hx=>?_,⟨s.env.m,fun x j hj=>?_,fun x y j hx hy=>?_⟩,s.below,fun x j hx0 hj=>?_,fun x hx=>?_,s.m,fun x hx=>?_,fun x j hx0 hj=>?_,s.gh.same ⟨rfl,rfl,rfl,rfl,Nat.le_refl _,fun _ _=>rfl,fun _ _ _=>rfl⟩⟩
  · have hx:(if x=b then none else (st.h x).map (thawBox b k n f))=some bx':=hx
    by_cases e:x=b
    · rw [if_pos e] at hx;cases hx
    · rw [if_neg e] at hx
      simp only [Option.map_eq_some_iff] at hx
      obtain ⟨bx1,hx2,rfl⟩:=hx
      rcases s.boxes x bx1 hx2 with g0|⟨kx,cx,Tx,g1,g2,g3,g4⟩
      · exact .inl g0
      refine .inr ⟨kx,cx,Tx,by simp [Env.drop,e,g1],g2,g3,fun i hi=>?_⟩
      obtain ⟨es,g5,g6,g7⟩:=g4 i hi
      exact ⟨es,by simp only [thawBox,sizes_thaw];exact g5,thawLs_R hkey g6,g7⟩
  · by_cases e:x=b
    · simp [Env.drop,e] at hj
    · simp [Env.drop,e] at hj;exact s.env.r _ _ hj
  · by_cases e:x=b
    · simp [Env.drop,e] at hx
    · by_cases e':y=b
      · simp [Env.drop,e'] at hy
      · simp [Env.drop,e] at hx;simp [Env.drop,e'] at hy;exact s.env.inj _ _ _ hx hy
  · by_cases e:x=b
    · simp [Env.drop,e] at hj
    · simp [Env.drop,e] at hj;exact s.own x j hx0 hj
  · have:x≠b:=by omega
    simp [Env.drop,this,s.low x hx]
  · by_cases e:x=b
    · simp [Env.drop,e]
    · simp [Env.drop,e];exact s.free x hx
  · by_cases e:x=b
    · simp [Env.drop,e] at hj
    · simp [Env.drop,e] at hj;exact s.ownM x j hx0 hj
theorem Wp_freeze {code:Code} (hc:CtxOk c) (b:Nat) (hb0:c.nb0≤b) {bx:Box} (hbx:st.h b=some bx) (hsz:bx.sz=1) (k:IntKind) (f:Nat→Int) (hg:∀i,i < bx.n→bx.g i= [.v (.int k (f i))])
    (h:Wp c code Q ⟨fun m=>thaw b k bx.n f (st.t m),fun x=>if x=b then none else (st.h x).map (thawBox b k bx.n f),st.nb,st.gh⟩):Wp c code Q st:=Wp_freezeN hc b hb0 hbx hsz bx.n (Nat.le_refl _) k f hg h
theorem pure_args {P:Program} {G:World→Prop} {f:FuncId} {args args':List AV} {r:AV} (h:Pure P G f args r) (hs:SubL args' args) (hcl:clV 0 args'):Pure P G f args' r:=
  ⟨h.callable,⟨hcl,h.cl.2⟩,fun E w vs hE hok hg hb hvs=>h.calls E w vs hE hok hg hb (hs.rvs hvs)⟩
-- axioms of Wp_freeze
end Go.Ax
end
section
namespace Go.Ax
open Go.RowKit (Below)
def slotL (n:Nat):List (Nat×AV)→AV
  | []=>.u
  | (k, x) :: r => match Nat.beq n k with
    | true=>x
    | false=>slotL n r
def slots (l:List (Nat×AV)) (n:Nat):AV:=slotL n l
def boxL (n:Nat):List (Nat×Box)→Option Box
  | []=>none
  | (k, x) :: r => match Nat.beq n k with
    | true=>some x
    | false=>boxL n r
def boxes (l:List (Nat×Box)) (n:Nat):Option Box:=boxL n l
def stOf (l:List (Nat×AV)) (h:List (Nat×Box)) (nb:Nat):St:=⟨slots l,boxes h,nb,tru⟩
variable {c:Ctx} {Q:Exit→St→Prop} {st:St}
def SubLv (xs ys:List Leaf):Prop:=(∀E w cs,LeavesR E w xs cs→LeavesR E w ys cs)∧sizes ys=sizes xs
theorem SubLv.refl (xs:List Leaf):SubLv xs xs:=⟨fun _ _ _ h=>h,rfl⟩
theorem SubLv.of_eq {xs ys:List Leaf} (h:xs=ys):SubLv xs ys:=h ▸ SubLv.refl xs
structure Weaker (nb0:Nat) (st st':St):Prop where
  t:∀m,Sub (st.t m) (st'.t m)∧(st'.t m).cl st'.nb
  h:∀b bx',st'.h b=some bx'→b < st'.nb∧((bx'.ro=true∧bx'.n=0)∨∃bx,st.h b=some bx∧bx.sz=bx'.sz∧bx'.n≤bx.n∧(bx.ro=true→bx'.ro=true∨0 < bx.n)∧∀i,i < bx'.n→SubLv (bx.g i) (bx'.g i)∧clL st'.nb (bx'.g i))
  nb:nb0≤st'.nb
  gh:st'.gh=tru∨st'.gh=st.gh
def Env.cut (E:Env) (n:Nat):Env:={ E with ρ:=fun x=>if x < n then E.ρ x else none }
theorem cut_into (E:Env) (n:Nat) (w:World):Into n E (E.cut n) w:=⟨fun b k hb h=>by simp [Env.cut,hb,h],fun k hk=>⟨hk.1,hk.2.1,fun b hb=>by
  simp only [Env.cut] at hb
  split at hb
  · exact hk.2.2 b hb
  · cases hb⟩⟩
theorem Weaker.sr {st':St} (h:Weaker c.nb0 st st') {E:Env} {a:Act} {w:World} (s:SR c st E a w):SR c st' (E.cut st'.nb) a w:=by
  have hi:=cut_into E st'.nb w
  have hcut:∀b k,(E.cut st'.nb).ρ b=some k→b < st'.nb∧E.ρ b=some k:=fun b k hb=>by
    simp only [Env.cut] at hb
    split at hb
    · rename_i h1;exact ⟨h1,hb⟩
    · cases hb
  refine ⟨s.size,s.defers,fun m=>hi.rv (h.t m).2 ((h.t m).1 _ _ _ (s.slots m)),fun b bx' hb=>?_,⟨s.env.m,fun x j hj=>s.env.r _ _ (hcut _ _ hj).2,fun x y j hx hy=>s.env.inj _ _ _ (hcut _ _ hx).2 (hcut _ _ hy).2⟩,s.below,fun x j hx0 hj=>s.own x j hx0 (hcut _ _ hj).2,fun x hx=>?_,s.m,fun x hx=>?_,fun x j hx0 hj=>s.ownM x j hx0 (hcut _ _ hj).2,?_⟩
  · obtain ⟨h0,h1⟩:=h.h b bx' hb
    rcases h1 with h1|⟨bx,h1,h2,h3,hro,h4⟩
    · exact .inl h1
    rcases s.boxes b bx h1 with g0|⟨k,cs,T,g1,g2,g3,g4⟩
    · rcases hro g0.1 with h5|h5
      · exact .inl ⟨h5,by have:=g0.2;omega⟩
      · have:=g0.2;omega
    refine .inr ⟨k,cs,T,hi.ρ _ _ h0 g1,g2,by rw [←h2];exact Nat.le_trans (Nat.mul_le_mul_right _ h3) g3,fun i hi'=>?_⟩
    obtain ⟨es,g5,g6,g7⟩:=g4 i (by omega)
    obtain ⟨h5,h6⟩:=h4 i hi'
    exact ⟨es,by rw [←h2,h5.2];exact g5,hi.leaves h6 (h5.1 _ _ _ g6),by rw [←h2];exact g7⟩
  · have:x < st'.nb:=Nat.lt_of_lt_of_le hx h.nb
    simp [Env.cut,this,s.low x hx]
  · have:¬x < st'.nb:=Nat.not_lt.2 hx
    simp [Env.cut,this]
  · rcases h.gh with e|e
    · rw [e];exact ghR_tru
    · rw [e];exact s.gh.same ⟨rfl,rfl,rfl,rfl,Nat.le_refl _,fun _ _=>rfl,fun _ _ _=>rfl⟩
theorem Wp_weaker {code:Code} {st':St} (h:Weaker c.nb0 st st') (hw:Wp c code Q st'):Wp c code Q st:=fun nn ro hro E a w s=>hw nn ro hro _ a w (h.sr s)
theorem Wp_loopS {x:Code} {ι:Type} (S:ι→St) (m:ι→Nat) (i0:ι) (h0:Weaker c.nb0 st (S i0)) (h:∀i,Wp c x (Nxt (fun st'=>∃j,Weaker c.nb0 st' (S j)∧m j < m i) Q) (S i)):Wp c (.loop x) Q st:=by
  refine Wp_weaker h0 ?_
  intro nn ro hro E a w s
  have key:∀k i,m i < k→∀E a w,SR c (S i) E a w→Code.roundsIn (WF ro) nn c.P x (fun e a w=>∃st E,SR c st E a w∧Q e st) k a w:=by
    intro k
    induction k with
    | zero=>intro i h;omega
    | succ k ih =>
      intro i hk E a w s
      refine wpIn_mono (h i nn ro hro E a w s) ?_
      rintro e a w ⟨st',E',s',q⟩
      cases e with
      | normal =>
        obtain ⟨j,hw,hlt⟩:=q
        exact ih j (by omega) _ a w (hw.sr s')
      | _=>exact ⟨st',E',s',q⟩
  exact wpIn_loop_rounds _ (key (m i0+1) i0 (Nat.lt_succ_self _) E a w s)
theorem Wp_loopI {x:Code} {α:Type} (S:α→St) (I:α→Prop) (m:α→Nat) (i0:α) (hi:I i0) (h0:Weaker c.nb0 st (S i0)) (h:∀i,I i→Wp c x (Nxt (fun st'=>∃j,I j∧m j < m i∧Weaker c.nb0 st' (S j)) Q) (S i)):Wp c (.loop x) Q st:=
  Wp_loopS (ι:={ a // I a }) (fun a=>S a.1) (fun a=>m a.1) ⟨i0,hi⟩ h0 fun i=>(h i.1 i.2).mono fun e st' q=>by
    cases e with
    | normal=>obtain ⟨j,h1,h2,h3⟩:=q;exact ⟨⟨j,h1⟩,h3,h2⟩
    | _=>exact q
/-! ## Weaker, by tables -/
def SlotsOk (nb:Nat):List (AV×AV)→Prop
  | []=>True
  | (x,y) :: r=>(Sub x y∧y.cl nb)∧SlotsOk nb r
def BoxesOk (nb:Nat):List (Nat×Option Box×Box)→Prop
  | []=>True
  | (b,x,y) :: r=>(Nat.ble (b+1) nb=true∧((y.ro=true∧y.n=0)∨∃bx,x=some bx∧bx.sz=y.sz∧y.n≤bx.n∧(bx.ro=true→y.ro=true∨0 < bx.n)∧∀i,i < y.n→SubLv (bx.g i) (y.g i)∧clL nb (y.g i)))∧BoxesOk nb r
def slotPairs (t:Nat→AV):List (Nat×AV)→List (AV×AV)
  | []=> []
  | (k,x) :: r=>(t k,x) :: slotPairs t r
def boxPairs (h:Nat→Option Box):List (Nat×Box)→List (Nat×Option Box×Box)
  | []=> []
  | (k,x) :: r=>(k,h k,x) :: boxPairs h r
theorem slots_ok {nb:Nat} {t:Nat→AV}:∀{l:List (Nat×AV)},SlotsOk nb (slotPairs t l)→∀m,Sub (t m) (slots l m)∧(slots l m).cl nb
  | [],_,m=>⟨fun _ _ _ _=>trivial,trivial⟩
  | (k, x) :: r, h, m => by
    unfold slots slotL
    cases e:Nat.beq m k with
    | true=>rw [Nat.eq_of_beq_eq_true e];exact h.1
    | false=>exact slots_ok h.2 m
theorem boxes_ok {nb:Nat} {h:Nat→Option Box}:∀{l:List (Nat×Box)},BoxesOk nb (boxPairs h l)→∀b bx',boxes l b=some bx'→b < nb∧((bx'.ro=true∧bx'.n=0)∨∃bx,h b=some bx∧bx.sz=bx'.sz∧bx'.n≤bx.n∧(bx.ro=true→bx'.ro=true∨0 < bx.n)∧∀i,i < bx'.n→SubLv (bx.g i) (bx'.g i)∧clL nb (bx'.g i))
  | [],_,b,bx',e=>(by cases e)
  | (k, x) :: r, hh, b, bx', e => by
    unfold boxes boxL at e
    cases e1:Nat.beq b k with
    | true=>rw [e1] at e;cases e;rw [Nat.eq_of_beq_eq_true e1];exact ⟨Nat.le_of_ble_eq_true hh.1.1,hh.1.2⟩
    | false=>rw [e1] at e;exact boxes_ok hh.2 b bx' e
theorem weaker_of {nb0:Nat} {l:List (Nat×AV)} {hs:List (Nat×Box)} {nb:Nat} (h1:SlotsOk nb (slotPairs st.t l)) (h2:BoxesOk nb (boxPairs st.h hs)) (h3:Nat.ble nb0 nb=true):Weaker nb0 st (stOf l hs nb):=
  ⟨slots_ok h1,boxes_ok h2,Nat.le_of_ble_eq_true h3,.inl rfl⟩
theorem slotsOk_nil {nb:Nat}:SlotsOk nb []:=trivial
theorem slotsOk_cons {nb:Nat} {x y:AV} {r:List (AV×AV)} (h2:y.cl nb) (h1:Sub x y) (h3:SlotsOk nb r):SlotsOk nb ((x,y) :: r):=⟨⟨h1,h2⟩,h3⟩
theorem slotsOk_eq {nb:Nat} {x:AV} {r:List (AV×AV)} (h2:x.cl nb) (h3:SlotsOk nb r):SlotsOk nb ((x,x) :: r):=⟨⟨Sub.refl x,h2⟩,h3⟩
theorem boxesOk_nil {nb:Nat}:BoxesOk nb []:=trivial
theorem boxesOk_cons {nb b n n' sz:Nat} {g g':Nat→List Leaf} {ro':Bool} {r:List (Nat×Option Box×Box)} (h0:Nat.ble (b+1) nb=true) (hcl:∀i,i < n→clL nb (g' i)) (hn:n=n') (h:∀i,i < n→g i=g' i) (h3:BoxesOk nb r):BoxesOk nb ((b,some ⟨sz,n,g,false⟩,⟨sz,n',g',ro'⟩) :: r):=
  ⟨⟨h0,.inr ⟨_,rfl,rfl,Nat.le_of_eq hn.symm,(fun e=>(by cases e)),fun i hi=>⟨SubLv.of_eq (h i (hn ▸ hi)),hcl i (hn ▸ hi)⟩⟩⟩,h3⟩
theorem boxesOk_cons_t {nb b n n' sz:Nat} {g g':Nat→List Leaf} {ro:Bool} {r:List (Nat×Option Box×Box)} (h0:Nat.ble (b+1) nb=true) (hcl:∀i,i < n→clL nb (g' i)) (hn:n=n') (h:∀i,i < n→g i=g' i) (h3:BoxesOk nb r):BoxesOk nb ((b,some ⟨sz,n,g,ro⟩,⟨sz,n',g',true⟩) :: r):=
  ⟨⟨h0,.inr ⟨_,rfl,rfl,Nat.le_of_eq hn.symm,(fun _=>.inl rfl),fun i hi=>⟨SubLv.of_eq (h i (hn ▸ hi)),hcl i (hn ▸ hi)⟩⟩⟩,h3⟩
theorem boxesOk_none {nb b sz:Nat} {x:Option Box} {g':Nat→List Leaf} {r:List (Nat×Option Box×Box)} (h0:Nat.ble (b+1) nb=true) (h3:BoxesOk nb r):BoxesOk nb ((b,x,⟨sz,0,g',true⟩) :: r):=⟨⟨h0,.inl ⟨rfl,rfl⟩⟩,h3⟩
theorem sub_int {k:IntKind} {a b:Int} (h:a=b):Sub (.one (.v (.int k a))) (.one (.v (.int k b))):=h ▸ Sub.refl _
theorem sub_own_eq {b sz i n c n' c':Nat} (hn:n=n') (hc:c=c'):Sub (.one (.own b sz i n c)) (.one (.own b sz i n' c')):=hn ▸ hc ▸ Sub.refl _
/-! ## A table of types -/
inductive TyTree where
  | nil
  | node (l:TyTree) (k:Nat) (v:TyI) (r:TyTree)
def TyTree.find:TyTree→Nat→Option TyI
  | .nil,_=>none
  | .node l k v r, n => match Nat.beq n k with
    | true=>some v
    | false => match Nat.ble n k with
      | true=>l.find n
      | false=>r.find n
def TyTree.Ok (P:Program):TyTree→Prop
  | .nil=>True
  | .node l k v r=>l.Ok P∧tyI P k=some v∧r.Ok P
theorem ttOk_of_tree {P:Program}:∀{t:TyTree},t.Ok P→TtOk P t.find
  | .nil,_=>fun _ _ h=>(by cases h)
  | .node l k v r, ⟨h1, h2, h3⟩ => fun T ti h => by
    unfold TyTree.find at h
    split at h
    · rename_i e;cases h;rw [Nat.eq_of_beq_eq_true e];exact h2
    · split at h
      · exact ttOk_of_tree h1 T ti h
      · exact ttOk_of_tree h3 T ti h
-- axioms of Wp_loopS
end Go.Ax
end
section
namespace Go.Ax
theorem sub_tup2 {x1 x2 y1 y2:AV} (h1:Sub x1 y1) (h2:Sub x2 y2):Sub (.tup [x1,x2]) (.tup [y1,y2]):=by
  rintro E w v ⟨vs,hv,v1,r,e,a1,v2,r',e',a2,e''⟩
  exact ⟨vs,hv,v1,r,e,h1 _ _ _ a1,v2,r',e',h2 _ _ _ a2,e''⟩
theorem sub_nil {k:IntKind}:Sub (.one (.v (.slice none 0 0))) (.one (.ints k [])):=by
  rintro E w v ⟨_,h,_⟩
  simp only [List.cons.injEq,and_true] at h
  exact ⟨rfl,v,rfl,.inl ⟨rfl,h⟩⟩
theorem sub_row_ints {n:Nat} {g:Nat→List Leaf} {k:IntKind} {ls:List Int} (hn:ls.length=n) (hg:∀i,i < n→g i= [.v (.int k (ls.getD i 0))]):Sub (.one (.row 1 n g)) (.one (.ints k ls)):=by
  rintro E w v ⟨_,h⟩
  refine ⟨rfl,v,rfl,?_⟩
  rcases h with ⟨h0,h⟩|⟨b,o,c,h,h1,h2,h3⟩
  · simp only [List.cons.injEq,and_true] at h
    exact .inl ⟨List.length_eq_zero_iff.1 (by omega),h⟩
  · simp only [List.cons.injEq,and_true] at h
    refine .inr ⟨b,o,c,by rw [hn];exact h,h1,by omega,fun j x hx=>?_⟩
    have hj:j < n:=by have:=(List.getElem?_eq_some_iff.1 hx).1;simp at this;omega
    obtain ⟨es,h5,h6,h7⟩:=h3 j hj
    rw [hg j hj] at h6
    obtain ⟨xs,ys,rfl,⟨rfl,_⟩,h9⟩:=h6
    obtain rfl:ys= []:=h9
    have:=h7 0 (.int k (ls.getD j 0)) rfl
    simp only [Nat.mul_one,Nat.add_zero] at this
    rw [this,←hx]
    have hj':j < ls.length:=by omega
    simp [List.getD_eq_getElem?_getD,hj']
variable {c:Ctx} {Q:Exit→St→Prop} {st:St}
theorem slots_thaw {b n:Nat} {k:IntKind} {f:Nat→Int} (l:List (Nat×AV)) (m:Nat):thaw b k n f (slots l m)=slots (l.map fun p=>(p.1,thaw b k n f p.2)) m:=by
  induction l with
  | nil=>rfl
  | cons p l ih =>
    obtain ⟨x,a⟩:=p
    simp only [slots,slotL,List.map_cons]
    cases Nat.beq m x with
    | true=>rfl
    | false=>exact ih
theorem boxes_thaw {b n:Nat} {k:IntKind} {f:Nat→Int} (l:List (Nat×Box)) (m:Nat):(boxes l m).map (thawBox b k n f)=boxes (l.map fun p=>(p.1,thawBox b k n f p.2)) m:=by
  induction l with
  | nil=>rfl
  | cons p l ih =>
    obtain ⟨x,a⟩:=p
    simp only [boxes,boxL,List.map_cons]
    cases Nat.beq m x with
    | true=>rfl
    | false=>exact ih
end Go.Ax
end
section
namespace Go.Ax
theorem val_append (B:Nat):∀xs ys:List Nat,val B (xs++ys)=val B xs+B ^ xs.length*val B ys
  | [],ys=>by simp [val]
  | x :: xs, ys => by
    simp only [List.cons_append,val,val_append B xs ys,List.length_cons,Nat.pow_succ]
    rw [Nat.mul_add,Nat.add_assoc,←Nat.mul_assoc,Nat.mul_comm B (B ^ xs.length)]
theorem val_lt (B:Nat):∀xs:List Nat,(∀d∈xs,d < B)→val B xs < B ^ xs.length
  | [],_=>by simp [val]
  | x :: xs, h => by
    have h1:=val_lt B xs fun d hd=>h d (by simp [hd])
    have h2:=h x (by simp)
    simp only [val,List.length_cons,Nat.pow_succ]
    have:B*(val B xs+1)≤B*B ^ xs.length:=Nat.mul_le_mul_left B h1
    rw [Nat.mul_add] at this
    rw [Nat.mul_comm (B ^ xs.length) B]
    omega
structure Dig (B:Nat) (ds:List Nat):Prop where
  lt:∀d∈ds,d < B
  last:ds.getLast?≠some 0
theorem Dig.nil (B:Nat):Dig B []:=⟨(fun _ h=>by cases h),(by simp)⟩
theorem Dig.tail {B d:Nat} {ds:List Nat} (h:Dig B (d :: ds)):Dig B ds:=by
  refine ⟨fun x hx=>h.lt x (by simp [hx]),fun e=>h.last ?_⟩
  cases ds with
  | nil=>cases e
  | cons a r=>rw [List.getLast?_cons_cons];exact e
theorem Dig.pos {B:Nat} (hB:0 < B):∀{ds:List Nat},Dig B ds→ds≠[]→0 < val B ds
  | [],_,h=>absurd rfl h
  | [d], h, _ => by
    have:d≠0:=fun e=>h.last (by simp [e])
    simp [val];omega
  | d :: e :: r, h, _ => by
    have:=Dig.pos hB h.tail (by simp)
    simp only [val] at this ⊢
    have h2:0 < B*(e+B*val B r):=Nat.mul_pos hB this
    omega
theorem Dig.eq {B:Nat} (hB:0 < B):∀{xs ys:List Nat},Dig B xs→Dig B ys→val B xs=val B ys→xs=ys
  | [],[],_,_,_=>rfl
  | [],y :: ys,_,hy,h=>by have:=hy.pos hB (by simp);rw [←h] at this;simp [val] at this
  | x :: xs,[],hx,_,h=>by have:=hx.pos hB (by simp);rw [h] at this;simp [val] at this
  | x :: xs, y :: ys, hx, hy, h => by
    simp only [val] at h
    have h1:=hx.lt x (by simp)
    have h2:=hy.lt y (by simp)
    have e1:x=y:=by
      have:=congrArg (·%B) h
      simpa [Nat.add_mul_mod_self_left,Nat.mod_eq_of_lt h1,Nat.mod_eq_of_lt h2] using this
    subst e1
    have e2:val B xs=val B ys:=by
      have:B*val B xs=B*val B ys:=by omega
      exact Nat.eq_of_mul_eq_mul_left hB this
    rw [Dig.eq hB hx.tail hy.tail e2]
end Go.Ax
end
section
namespace Go.Ax
abbrev BB:Nat:=18446744073709551616
theorem val_take_succ (B:Nat) (l:List Nat) (k:Nat):val B (l.take (k+1))=val B (l.take k)+B ^ k*l.getD k 0:=by
  by_cases h:k < l.length
  · rw [List.take_succ_eq_append_getElem h,val_append]
    simp [val,List.getD_eq_getElem?_getD,h,Nat.min_eq_left (Nat.le_of_lt h)]
  · have h:l.length≤k:=by omega
    rw [List.take_of_length_le h,List.take_of_length_le (by omega)]
    simp [List.getD_eq_getElem?_getD,List.getElem?_eq_none h]
theorem val_take_full (B:Nat) (l:List Nat) {k:Nat} (h:l.length≤k):val B (l.take k)=val B l:=by rw [List.take_of_length_le h]
theorem getD_lt {B:Nat} (hB:0 < B) {l:List Nat} (h:∀d∈l,d < B) (k:Nat):l.getD k 0 < B:=by
  rw [List.getD_eq_getElem?_getD]
  cases e:l[k]? with
  | none=>simpa using hB
  | some d=>exact h d (List.mem_of_getElem? e)
theorem val_snoc (B:Nat) (o:List Nat) (d:Nat):val B (o++ [d])=val B o+B ^ o.length*d:=by rw [val_append];simp [val]
theorem snoc_lt {B:Nat} {o:List Nat} {d:Nat} (h:∀d∈o,d < B) (hd:d < B):∀e∈o++ [d],e < B:=by
  intro e he
  rcases List.mem_append.1 he with he|he
  · exact h e he
  · simp at he;rw [he];exact hd
structure AddTo (B:Nat) (x y o:List Nat) (c:Nat):Prop where
  lt:∀d∈o,d < B
  hc:c≤1
  len:o.length≤x.length
  eq:val B o+B ^ o.length*c=val B (x.take o.length)+val B (y.take o.length)
theorem AddTo.step {B:Nat} (hB:2≤B) {x y o:List Nat} {c:Nat} (h:AddTo B x y o c) (hx:∀d∈x,d < B) (hy:∀d∈y,d < B) (hl:o.length < x.length) :
    AddTo B x y (o++ [(x.getD o.length 0+y.getD o.length 0+c)%B]) ((x.getD o.length 0+y.getD o.length 0+c) / B):=by
  have h1:=getD_lt (by omega) hx o.length
  have h2:=getD_lt (by omega) hy o.length
  have h3:=h.hc
  refine ⟨snoc_lt h.lt (Nat.mod_lt _ (by omega)),?_,by simp;omega,?_⟩
  · have:x.getD o.length 0+y.getD o.length 0+c < 2*B:=by omega
    have:=Nat.div_lt_of_lt_mul (show x.getD o.length 0+y.getD o.length 0+c < B*2 by omega)
    omega
  · rw [val_snoc,List.length_append,List.length_singleton,val_take_succ,val_take_succ]
    have h4:=h.eq
    have h5:=Nat.mod_add_div (x.getD o.length 0+y.getD o.length 0+c) B
    generalize x.getD o.length 0=a at *
    generalize y.getD o.length 0=b at *
    generalize (a+b+c)%B=r at *
    generalize (a+b+c) / B=q at *
    rw [Nat.pow_succ]
    generalize B ^ o.length=p at *
    grind
structure SubTo (B:Nat) (x y o:List Nat) (c:Nat):Prop where
  lt:∀d∈o,d < B
  hc:c≤1
  len:o.length≤x.length
  eq:val B o+val B (y.take o.length)=val B (x.take o.length)+B ^ o.length*c
theorem SubTo.step {B:Nat} (hB:2≤B) {x y o:List Nat} {c:Nat} (h:SubTo B x y o c) (hx:∀d∈x,d < B) (hy:∀d∈y,d < B) (hl:o.length < x.length) :
    SubTo B x y (o++ [(x.getD o.length 0+B - y.getD o.length 0 - c)%B]) (if x.getD o.length 0 < y.getD o.length 0+c then 1 else 0):=by
  have h1:=getD_lt (by omega) hx o.length
  have h2:=getD_lt (by omega) hy o.length
  have h3:=h.hc
  refine ⟨snoc_lt h.lt (Nat.mod_lt _ (by omega)),by split <;> omega,by simp;omega,?_⟩
  rw [val_snoc,List.length_append,List.length_singleton,val_take_succ,val_take_succ]
  have h4:=h.eq
  have h5:(x.getD o.length 0+B - y.getD o.length 0 - c)%B+y.getD o.length 0+c=x.getD o.length 0+B*(if x.getD o.length 0 < y.getD o.length 0+c then 1 else 0):=by
    split
    · rw [Nat.mod_eq_of_lt (by omega)];omega
    · rw [Nat.mod_eq_sub_mod (by omega),Nat.mod_eq_of_lt (by omega)];omega
  generalize x.getD o.length 0=a at *
  generalize y.getD o.length 0=b at *
  generalize (a+B - b - c)%B=r at *
  generalize (if a < b+c then 1 else 0)=q at *
  rw [Nat.pow_succ]
  generalize B ^ o.length=p at *
  grind
theorem AddTo.nil {B:Nat} (x y:List Nat):AddTo B x y [] 0:=⟨(fun _ h=>by cases h),by omega,by simp,by simp [val]⟩
theorem SubTo.nil {B:Nat} (x y:List Nat):SubTo B x y [] 0:=⟨(fun _ h=>by cases h),by omega,by simp,by simp [val]⟩
theorem AddTo.done {B:Nat} {x y o:List Nat} {c:Nat} (h:AddTo B x y o c) (hl:o.length=x.length) (hxy:y.length≤x.length):val B (o++ [c])=val B x+val B y:=by
  rw [val_snoc,h.eq,hl,List.take_length,val_take_full B y hxy]
theorem SubTo.done {B:Nat} {x y o:List Nat} {c:Nat} (h:SubTo B x y o c) (hl:o.length=x.length) (hxy:y.length≤x.length) (hle:val B y≤val B x):val B o=val B x - val B y:=by
  have h1:=h.eq
  rw [hl,List.take_length,val_take_full B y hxy,←hl] at h1
  have h2:=val_lt B o h.lt
  have h3:c=0∨c=1:=by have:=h.hc;omega
  rcases h3 with rfl|rfl <;> omega
end Go.Ax
end
section
namespace Go.Ax
theorem val_set (B:Nat):∀(o:List Nat) (k d:Nat),k < o.length→val B (o.set k d)+B ^ k*o.getD k 0=val B o+B ^ k*d
  | [],k,d,h=>by simp at h
  | x :: o,0,d,h=>by simp [val];omega
  | x :: o, k + 1, d, h => by
    have ih:=val_set B o k d (by simpa using h)
    have e:(x :: o).getD (k+1) 0=o.getD k 0:=by simp [List.getD_eq_getElem?_getD]
    rw [e]
    simp only [List.set_cons_succ,val,Nat.pow_succ]
    generalize o.getD k 0=y at *
    generalize val B (o.set k d)=s at *
    generalize val B o=t at *
    generalize B ^ k=p at *
    grind
theorem getD_set {o:List Nat} {i:Nat} (d j:Nat) (h:i < o.length):(o.set i d).getD j 0=if j=i then d else o.getD j 0:=by
  simp only [List.getD_eq_getElem?_getD]
  by_cases e:j=i
  · subst e;simp [h]
  · rw [List.getElem?_set_ne (fun e'=>e e'.symm),if_neg e]
theorem set_lt {B:Nat} {o:List Nat} (h:∀d∈o,d < B) {i d:Nat} (hd:d < B):∀e∈o.set i d,e < B:=by
  intro e he
  rcases List.mem_or_eq_of_mem_set he with he|he
  · exact h e he
  · rw [he];exact hd
structure MulTo (B p i x:Nat) (y o:List Nat) (j c:Nat):Prop where
  lt:∀d∈o,d < B
  hc:c < B
  hj:j≤y.length
  len:i+y.length < o.length
  eq:val B o+B ^ (i+j)*c=p+B ^ i*(x*val B (y.take j))
  zero:∀k,i+y.length≤k→o.getD k 0=0
theorem MulTo.step {B p i x:Nat} {y o:List Nat} {j c l c':Nat} (h:MulTo B p i x y o j c) (hj:j < y.length) (hl:l < B) (hc':c' < B)
    (e:l+B*c'=x*y.getD j 0+o.getD (i+j) 0+c):MulTo B p i x y (o.set (i+j) l) (j+1) c':=by
  have hlen:=h.len
  refine ⟨set_lt h.lt hl,hc',hj,by rw [List.length_set];exact hlen,?_,fun k hk=>?_⟩
  · have h1:=val_set B o (i+j) l (by omega)
    have h2:=h.eq
    rw [val_take_succ,←Nat.add_assoc,Nat.pow_succ]
    rw [Nat.pow_add] at h1 h2 ⊢
    generalize val B (o.set (i+j) l)=s at *
    generalize val B o=t at *
    generalize val B (y.take j)=v at *
    generalize y.getD j 0=yj at *
    generalize o.getD (i+j) 0=oj at *
    generalize B ^ i=a at *
    generalize B ^ j=b at *
    have h3:a*b*(l+B*c')=a*b*(x*yj+oj+c):=by rw [e]
    grind
  · rw [getD_set _ _ (by omega),if_neg (by omega)];exact h.zero k hk
structure MulRows (B:Nat) (x y o:List Nat) (i:Nat):Prop where
  lt:∀d∈o,d < B
  hi:i≤x.length
  len:o.length=x.length+y.length
  eq:val B o=val B (x.take i)*val B y
  zero:∀k,i+y.length≤k→o.getD k 0=0
theorem MulRows.start {B:Nat} {x y o:List Nat} {i:Nat} (h:MulRows B x y o i) (hi:i < x.length) (hB:0 < B):MulTo B (val B (x.take i)*val B y) i (x.getD i 0) y o 0 0:=
  ⟨h.lt,hB,Nat.zero_le _,by rw [h.len];omega,by rw [h.eq];simp [val],h.zero⟩
theorem MulRows.next {B:Nat} {x y o:List Nat} {i c:Nat} (hi:i < x.length) (hl:o.length=x.length+y.length) (h:MulTo B (val B (x.take i)*val B y) i (x.getD i 0) y o y.length c):MulRows B x y (o.set (i+y.length) c) (i+1):=by
  refine ⟨set_lt h.lt h.hc,hi,by rw [List.length_set];exact hl,?_,fun k hk=>?_⟩
  · have h1:=val_set B o (i+y.length) c h.len
    have h2:=h.eq
    rw [h.zero _ (Nat.le_refl _),Nat.mul_zero,Nat.add_zero] at h1
    rw [List.take_length] at h2
    rw [h1,h2,val_take_succ]
    generalize val B (x.take i)=a
    generalize val B y=b
    generalize x.getD i 0=d
    generalize B ^ i=e
    grind
  · rw [getD_set _ _ h.len,if_neg (by omega)];exact h.zero k (by omega)
theorem val_replicate (B n:Nat):val B (List.replicate n 0)=0:=by
  induction n with
  | zero=>rfl
  | succ n ih=>simp [List.replicate_succ,val,ih]
theorem MulRows.done {B:Nat} {x y o:List Nat} (h:MulRows B x y o x.length):val B o=val B x*val B y:=by
  have:=h.eq;rwa [List.take_length] at this
/-! ## Long division: the guess of a digit -/
section
variable {B p q r v1 v2 Vl u3 Ul T U V:Nat}
theorem kd_dec (hV:V=(v1*B+v2)*p+Vl) (hU:U=(T*B+u3)*p+Ul) (hUl:Ul < p) (hT:T=q*v1+r) (h:r*B+u3 < q*v2):U < q*V:=by
  have h1:(r*B+u3+1)*p≤q*v2*p:=Nat.mul_le_mul_right _ h
  have h2:q*V=q*v1*B*p+q*v2*p+q*Vl:=by rw [hV];grind
  have h3:U+(p - Ul)=q*v1*B*p+(r*B+u3+1)*p:=by
    have:(r*B+u3+1)*p=(r*B+u3)*p+p:=by grind
    have:U=q*v1*B*p+(r*B+u3)*p+Ul:=by rw [hU,hT];grind
    omega
  omega
theorem kd_exit (hV:V=(v1*B+v2)*p+Vl) (hU:U=(T*B+u3)*p+Ul) (hVl:Vl < p) (hT:T=q*v1+r) (hq:q < B) (hv1:0 < v1) (h:q*v2≤r*B+u3):q*V≤U+V:=by
  have h1:q*v2*p≤(r*B+u3)*p:=Nat.mul_le_mul_right _ h
  have h2:q*V=q*v1*B*p+q*v2*p+q*Vl:=by rw [hV];grind
  have h3:U=q*v1*B*p+(r*B+u3)*p+Ul:=by rw [hU,hT];grind
  have h4:q*Vl≤B*p:=Nat.mul_le_mul (Nat.le_of_lt hq) (Nat.le_of_lt hVl)
  have h5:1*(B*p)≤v1*(B*p):=Nat.mul_le_mul_right _ hv1
  have h6:V=v1*(B*p)+v2*p+Vl:=by rw [hV];grind
  omega
end
structure MsTo (B q:Nat) (u v o:List Nat) (c b:Nat):Prop where
  lt:∀d∈o,d < B
  hc:c < B
  hb:b≤1
  len:o.length≤v.length
  eq:val B o+q*val B (v.take o.length)=val B (u.take o.length)+B ^ o.length*(c+b)
theorem MsTo.step {B q:Nat} {u v o:List Nat} {c b l c' d b':Nat} (h:MsTo B q u v o c b) (hl:o.length < v.length) (hc':c' < B) (hd:d < B) (hb':b'≤1)
    (e1:q*v.getD o.length 0+c=l+B*c') (e2:d+l+b=u.getD o.length 0+B*b'):MsTo B q u v (o++ [d]) c' b':=by
  refine ⟨snoc_lt h.lt hd,hc',hb',by simp;omega,?_⟩
  rw [val_snoc,List.length_append,List.length_singleton,val_take_succ,val_take_succ,Nat.pow_succ]
  have h2:=h.eq
  generalize val B o=s at *
  generalize val B (v.take o.length)=t at *
  generalize val B (u.take o.length)=w at *
  generalize v.getD o.length 0=vj at *
  generalize u.getD o.length 0=uj at *
  generalize B ^ o.length=a at *
  have h3:a*(q*vj+c)=a*(l+B*c'):=by rw [e1]
  have h4:a*(d+l+b)=a*(uj+B*b'):=by rw [e2]
  grind
theorem MsTo.nil {B q:Nat} (hB:0 < B) (u v:List Nat):MsTo B q u v [] 0 0:=⟨(fun _ h=>by cases h),hB,by omega,by simp,by simp [val]⟩
theorem MsTo.done {B q:Nat} {u v o:List Nat} {c b d b':Nat} (h:MsTo B q u v o c b) (hl:o.length=v.length) (hu:u.length=v.length+1) (e:d+c+b=u.getD v.length 0+B*b') :
    val B (o++ [d])+q*val B v=val B u+B ^ (v.length+1)*b':=by
  have h1:=h.eq
  have h2:val B u=val B (u.take v.length)+B ^ v.length*u.getD v.length 0:=by
    rw [←val_take_succ,List.take_of_length_le (by omega)]
  rw [hl,List.take_length] at h1
  rw [val_snoc,hl,h2,Nat.pow_succ]
  generalize val B o=s at *
  generalize val B v=t at *
  generalize val B (u.take v.length)=w at *
  generalize u.getD v.length 0=uj at *
  generalize B ^ v.length=a at *
  have h4:a*(d+c+b)=a*(uj+B*b'):=by rw [e]
  grind
/-! ## What a step comes to -/
end Go.Ax
end
section
namespace Go.Ax
def bl (x:Nat):Nat:=if x=0 then 0 else x.log2+1
theorem bl_lt (x:Nat):x < 2 ^ bl x:=by
  unfold bl;split
  · rename_i h;subst h;decide
  · exact Nat.lt_log2_self
theorem bl_le {x:Nat} (h:x≠0):2 ^ (bl x - 1)≤x:=by
  unfold bl;rw [if_neg h,Nat.add_sub_cancel];exact Nat.log2_self_le h
theorem bl_pos {x:Nat} (h:x≠0):1≤bl x:=by unfold bl;rw [if_neg h];omega
theorem bl_le_of {x n:Nat} (h:x < 2 ^ n):bl x≤n:=by
  unfold bl;split
  · omega
  · rename_i h0;exact (Nat.log2_lt h0).2 h
/-! ## Casts -/
/-! ## A shift of digits -/
structure ShTo (s:Nat) (w o:List Nat) (i:Nat):Prop where
  lt:∀d∈o,d < BB
  hi:i≤w.length
  len:o.length=w.length+1
  eq:val BB o=val BB (w.take i)*2 ^ s
  low:o.getD i 0 < 2 ^ s
  zero:∀k,i < k→o.getD k 0=0
theorem sh_digit {x s:Nat} (hx:x < BB) (hs:s < 64):x*2 ^ s / BB=x / 2 ^ (64 - s)∧x*2 ^ s / BB < 2 ^ s∧x*2 ^ s%BB+2 ^ s≤BB∧2 ^ s∣x*2 ^ s%BB:=by
  have hB:BB=2 ^ (64 - s)*2 ^ s:=by rw [←Nat.pow_add,show 64 - s+s=64 by omega]
  have hp:=Nat.two_pow_pos s
  have hq:=Nat.two_pow_pos (64 - s)
  rw [hB] at hx ⊢
  generalize 2 ^ (64 - s)=q at *
  generalize 2 ^ s=p at *
  rw [Nat.mul_div_mul_right _ _ hp,Nat.mul_mod_mul_right]
  refine ⟨rfl,Nat.div_lt_of_lt_mul hx,?_,Nat.dvd_mul_left _ _⟩
  have:x%q+1≤q:=Nat.mod_lt _ hq
  calc x%q*p+p=(x%q+1)*p:=by grind
    _≤q*p:=Nat.mul_le_mul_right _ this
theorem ShTo.step {s:Nat} {w o:List Nat} {i:Nat} (hs:s < 64) (h:ShTo s w o i) (hw:∀d∈w,d < BB) (hi:i < w.length) :
    ShTo s w ((o.set i (o.getD i 0+w.getD i 0*2 ^ s%BB)).set (i+1) (w.getD i 0*2 ^ s / BB)) (i+1):=by
  have hx:w.getD i 0 < BB:=getD_lt (by decide) hw i
  obtain ⟨_,h2,h3,_⟩:=sh_digit hx hs
  have hl:=h.len
  have hlow:=h.low
  have hB:w.getD i 0*2 ^ s / BB < BB:=Nat.lt_of_lt_of_le h2 (Nat.pow_le_pow_right (by decide) (show s≤64 by omega))
  refine ⟨set_lt (set_lt h.lt (by omega)) hB,hi,by simp [hl],?_,?_,fun k hk=>?_⟩
  · have e1:=val_set BB o i (o.getD i 0+w.getD i 0*2 ^ s%BB) (by omega)
    have e2:=val_set BB (o.set i (o.getD i 0+w.getD i 0*2 ^ s%BB)) (i+1) (w.getD i 0*2 ^ s / BB) (by rw [List.length_set];omega)
    have e0:(o.set i (o.getD i 0+w.getD i 0*2 ^ s%BB)).getD (i+1) 0=0:=by
      rw [getD_set _ _ (by omega),if_neg (by omega)];exact h.zero _ (by omega)
    rw [e0,Nat.mul_zero,Nat.add_zero] at e2
    clear e0
    have e3:=h.eq
    rw [val_take_succ,Nat.add_mul,←e3]
    have e4:=Nat.div_add_mod (w.getD i 0*2 ^ s) BB
    rw [Nat.pow_succ] at e2
    generalize val BB ((o.set i (o.getD i 0+w.getD i 0*2 ^ s%BB)).set (i+1) (w.getD i 0*2 ^ s / BB))=v2 at *
    generalize val BB (o.set i (o.getD i 0+w.getD i 0*2 ^ s%BB))=v1 at *
    generalize val BB o=v0 at *
    rw [Nat.mul_assoc (BB ^ i),←e4]
    generalize w.getD i 0*2 ^ s / BB=q at *
    generalize w.getD i 0*2 ^ s%BB=r at *
    generalize o.getD i 0=c at *
    generalize BB ^ i=p at *
    clear e4 h3 hlow
    grind
  · rw [getD_set _ _ (by rw [List.length_set];omega),if_pos rfl];exact h2
  · rw [getD_set _ _ (by rw [List.length_set];omega),if_neg (by omega),getD_set _ _ (by omega),if_neg (by omega)]
    exact h.zero k (by omega)
theorem ShTo.nil (s:Nat) (w:List Nat):ShTo s w (List.replicate (w.length+1) 0) 0:=
  ⟨fun d hd=>by rw [(List.mem_replicate.1 hd).2];decide,Nat.zero_le _,by simp,by rw [val_replicate];simp [val],by
    simp only [List.getD_eq_getElem?_getD,List.getElem?_replicate];split <;> exact Nat.two_pow_pos s,fun k _=>by
    simp only [List.getD_eq_getElem?_getD,List.getElem?_replicate];split <;> rfl⟩
/-! ## A fixed number of digits -/
def fixd (B:Nat):Nat→Nat→List Nat
  | 0,_=> []
  | n+1,v=>v%B :: fixd B n (v / B)
theorem fixd_len (B:Nat):∀n v,(fixd B n v).length=n
  | 0,_=>rfl
  | n+1,v=>by simp [fixd,fixd_len B n]
theorem fixd_lt {B:Nat} (hB:0 < B):∀n v,∀d∈fixd B n v,d < B
  | 0,_,d,h=>by cases h
  | n + 1, v, d, h => by
    rcases List.mem_cons.1 h with h|h
    · rw [h];exact Nat.mod_lt _ hB
    · exact fixd_lt hB n _ d h
theorem fixd_val {B:Nat}:∀n v,val B (fixd B n v)=v%B ^ n
  | 0,v=>by simp [fixd,val,Nat.mod_one]
  | n + 1, v => by
    simp only [fixd,val]
    rw [fixd_val n,Nat.pow_succ,Nat.mul_comm (B ^ n) B,Nat.mod_mul]
/-! ## Three half digits by two -/
structure KD (R y1 y0 T u q r:Nat):Prop where
  eqT:T=q*y1+r
  up:T*R+u < (q+1)*(y1*R+y0)
  hq:q≤R+1
  hr:r < R
section
variable {R y1 y0 T u q r:Nat}
theorem KD.start (hR:R≤2*y1) (hy1:y1 < R) (hy0:y0 < R) (hu:u < R) (hT:T < y1*R+y0):KD R y1 y0 T u (T / y1) (T%y1):=by
  have hp:0 < y1:=by omega
  have hr:=Nat.mod_lt T hp
  have e:T=T / y1*y1+T%y1:=by have:=Nat.div_add_mod T y1;rw [Nat.mul_comm] at this;omega
  refine ⟨e,?_,?_,by omega⟩
  · have h1:T+1≤(T / y1+1)*y1:=by rw [Nat.add_mul];omega
    have h2:(T+1)*R≤(T / y1+1)*y1*R:=Nat.mul_le_mul_right _ h1
    rw [Nat.add_mul,Nat.one_mul] at h2
    rw [Nat.mul_add,←Nat.mul_assoc]
    omega
  · have:T / y1 < R+2:=by
      rw [Nat.div_lt_iff_lt_mul hp,Nat.add_mul,Nat.mul_comm R]
      omega
    omega
theorem KD.more (h:KD R y1 y0 T u q r) (hT:T < y1*R+y0) (hu:u < R) (hc:R≤q∨R*r+u < q*y0):1≤q∧T=(q - 1)*y1+(r+y1)∧T*R+u < q*(y1*R+y0):=by
  have h1:=h.eqT
  have h2:=h.hr
  have hq:1≤q:=by
    rcases Nat.eq_zero_or_pos q with e|e
    · subst e
      rcases hc with hc|hc
      · omega
      · simp at hc
    · exact e
  obtain ⟨p,rfl⟩:∃p,q=p+1:=⟨q - 1,by omega⟩
  refine ⟨hq,?_,?_⟩
  · rw [Nat.add_sub_cancel];rw [Nat.add_mul] at h1;omega
  · rcases hc with hc|hc
    · have h3:(T+1)*R≤(y1*R+y0)*R:=Nat.mul_le_mul_right _ hT
      have h4:R*(y1*R+y0)≤(p+1)*(y1*R+y0):=Nat.mul_le_mul_right _ hc
      rw [Nat.add_mul] at h3
      rw [Nat.mul_comm (y1*R+y0) R] at h3
      omega
    · rw [h1]
      generalize p+1=q at *
      have:(q*y1+r)*R+u=q*(y1*R)+(R*r+u):=by grind
      rw [this,Nat.mul_add]
      omega
theorem KD.next (h:KD R y1 y0 T u q r) (hT:T < y1*R+y0) (hu:u < R) (hc:R≤q∨R*r+u < q*y0) (hr:r+y1 < R):KD R y1 y0 T u (q - 1) (r+y1):=by
  obtain ⟨h1,h2,h3⟩:=h.more hT hu hc
  exact ⟨h2,by rwa [Nat.sub_add_cancel h1],by have:=h.hq;omega,hr⟩
theorem KD.done (h:KD R y1 y0 T u q r) (hc:q*y0≤R*r+u):q=(T*R+u) / (y1*R+y0):=by
  have h4:q*(y1*R+y0)≤T*R+u:=by
    have h7:T*R=q*(y1*R)+R*r:=by rw [h.eqT];grind
    rw [Nat.mul_add]
    omega
  exact (Nat.div_eq_of_lt_le h4 h.up).symm
end
end Go.Ax
end
section
namespace Go.Ax
theorem norm_top {y:Nat} (h0:y≠0) (hy:y < BB):9223372036854775808≤y*2 ^ (64 - bl y)∧y*2 ^ (64 - bl y) < BB∧64 - bl y < 64:=by
  have h1:=bl_le h0
  have h2:=bl_lt y
  have h3:=bl_pos h0
  have h4:bl y≤64:=bl_le_of (n:=64) hy
  have e1:(9223372036854775808:Nat)=2 ^ (bl y - 1)*2 ^ (64 - bl y):=by rw [←Nat.pow_add,show bl y - 1+(64 - bl y)=63 by omega]
  have e2:BB=2 ^ bl y*2 ^ (64 - bl y):=by rw [←Nat.pow_add,show bl y+(64 - bl y)=64 by omega]
  have hp:=Nat.two_pow_pos (64 - bl y)
  refine ⟨?_,?_,by omega⟩
  · rw [e1];exact Nat.mul_le_mul_right _ h1
  · rw [e2];exact Nat.mul_lt_mul_of_pos_right h2 hp
end Go.Ax
end
section
namespace Go.Ax
/-! ## A window of a row -/
def rw3 (o:List Nat) (j:Nat) (d:List Nat):List Nat:=o.take j++(d++o.drop (j+d.length))
section
variable {o d:List Nat} {j:Nat}
theorem rw3_len (h:j+d.length≤o.length):(rw3 o j d).length=o.length:=by simp [rw3];omega
theorem rw3_lt {B:Nat} (ho:∀x∈o,x < B) (hd:∀x∈d,x < B):∀x∈rw3 o j d,x < B:=by
  intro x hx
  simp only [rw3,List.mem_append] at hx
  rcases hx with hx|hx|hx
  · exact ho x (List.mem_of_mem_take hx)
  · exact hd x hx
  · exact ho x (List.mem_of_mem_drop hx)
end
/-! ## The top digits -/
theorem val_top1 {B:Nat} {l:List Nat} {n:Nat} (hl:l.length=n+1):val B l=l.getD n 0*B ^ n+val B (l.take n):=by
  have h1:=val_take_succ B l n
  rw [List.take_of_length_le (by omega)] at h1
  rw [h1,Nat.mul_comm];omega
structure KQ (B v1 T U V q r over:Nat):Prop where
  eqT:T=q*v1+(r+B*over)
  up:U < (q+1)*V
  hq:q < B
  hr:r < B
  hov:over≤1
structure KG (B U V q:Nat):Prop where
  up:U < (q+1)*V
  low:q*V≤U+V
  hq:q < B
section
variable {B p v1 v2 Vl u1 u2 u3 Ul T U V q r over:Nat}
theorem KQ.carry (h:KQ B v1 T U V q r 1) (hU:U=(T*B+u3)*p+Ul) (hV:V=(v1*B+v2)*p+Vl) (hVl:Vl < p) (hv2:v2 < B) (hv1:0 < v1):KG B U V q:=by
  refine ⟨h.up,kd_exit (r:=r+B*1) (v2:=v2) (u3:=u3) (Ul:=Ul) hV hU hVl h.eqT h.hq hv1 ?_,h.hq⟩
  have h1:q*v2≤B*B:=Nat.mul_le_mul (Nat.le_of_lt h.hq) (Nat.le_of_lt hv2)
  rw [Nat.mul_one,Nat.add_mul];omega
theorem KQ.next (h:KQ B v1 T U V q r 0) (hU:U=(T*B+u3)*p+Ul) (hV:V=(v1*B+v2)*p+Vl) (hUl:Ul < p) (hv1:v1 < B) (hc:r*B+u3 < q*v2):1≤q∧KQ B v1 T U V (q - 1) ((r+v1)%B) ((r+v1) / B):=by
  have hr:=h.hr
  have hq:1≤q:=by
    rcases Nat.eq_zero_or_pos q with e|e
    · subst e;simp at hc
    · exact e
  have hT:T=q*v1+r:=by have:=h.eqT;omega
  have hd:=kd_dec hV hU hUl hT hc
  obtain ⟨k,rfl⟩:∃k,q=k+1:=⟨q - 1,by omega⟩
  have e:=Nat.div_add_mod (r+v1) B
  refine ⟨hq,?_,by rw [Nat.sub_add_cancel hq];exact hd,by have:=h.hq;omega,Nat.mod_lt _ (by omega),?_⟩
  · rw [Nat.add_sub_cancel,hT,Nat.add_mul];omega
  · have:=Nat.div_lt_of_lt_mul (show r+v1 < B*2 by omega)
    omega
end
end Go.Ax
end
