/- Lemmas on the program and its library, part 9. -/
import Derived.Test.YtoiejgkkcfkliaaGreatDoorZ07
set_option linter.unusedVariables false
set_option linter.unusedSimpArgs false
section
namespace Go.Ax
open Go.RowKit (Below)
def slotL (n:Nat):List (Nat×AV)→AV
  | []=>.u
  | (k, x) :: r => match Nat.beq n k with
    | true=>x
    | false=>slotL n r
def slots (l:List (Nat×AV)) (n:Nat):AV:=slotL n l
def boxL (n:Nat):List (Nat×Box)→Option Box
  | []=>none
  | (k, x) :: r => match Nat.beq n k with
    | true=>some x
    | false=>boxL n r
def boxes (l:List (Nat×Box)) (n:Nat):Option Box:=boxL n l
def stOf (l:List (Nat×AV)) (h:List (Nat×Box)) (nb:Nat):St:=⟨slots l,boxes h,nb⟩
variable {c:Ctx} {Q:Exit→St→Prop} {st:St}
def SubLv (xs ys:List Leaf):Prop:=(∀E w cs,LeavesR E w xs cs→LeavesR E w ys cs)∧sizes ys=sizes xs
theorem SubLv.refl (xs:List Leaf):SubLv xs xs:=⟨fun _ _ _ h=>h,rfl⟩
theorem SubLv.of_eq {xs ys:List Leaf} (h:xs=ys):SubLv xs ys:=h ▸ SubLv.refl xs
structure Weaker (nb0:Nat) (st st':St):Prop where
  t:∀m,Sub (st.t m) (st'.t m)∧(st'.t m).cl st'.nb
  h:∀b bx',st'.h b=some bx'→b < st'.nb∧((bx'.ro=true∧bx'.n=0)∨∃bx,st.h b=some bx∧bx.sz=bx'.sz∧bx'.n≤bx.n∧(bx.ro=true→bx'.ro=true∨0 < bx.n)∧∀i,i < bx'.n→SubLv (bx.g i) (bx'.g i)∧clL st'.nb (bx'.g i))
  nb:nb0≤st'.nb
def Env.cut (E:Env) (n:Nat):Env:={ E with ρ:=fun x=>if x < n then E.ρ x else none }
theorem cut_into (E:Env) (n:Nat) (w:World):Into n E (E.cut n) w:=⟨fun b k hb h=>by simp [Env.cut,hb,h],fun k hk=>⟨hk.1,hk.2.1,fun b hb=>by
  simp only [Env.cut] at hb
  split at hb
  · exact hk.2.2 b hb
  · cases hb⟩⟩
theorem Weaker.sr {st':St} (h:Weaker c.nb0 st st') {E:Env} {a:Act} {w:World} (s:SR c st E a w):SR c st' (E.cut st'.nb) a w:=by
  have hi:=cut_into E st'.nb w
  have hcut:∀b k,(E.cut st'.nb).ρ b=some k→b < st'.nb∧E.ρ b=some k:=fun b k hb=>by
    simp only [Env.cut] at hb
    split at hb
    · rename_i h1;exact ⟨h1,hb⟩
    · cases hb
  refine ⟨s.size,s.defers,fun m=>hi.rv (h.t m).2 ((h.t m).1 _ _ _ (s.slots m)),fun b bx' hb=>?_,⟨s.env.m,fun x j hj=>s.env.r _ _ (hcut _ _ hj).2,fun x y j hx hy=>s.env.inj _ _ _ (hcut _ _ hx).2 (hcut _ _ hy).2⟩,s.below,fun x j hx0 hj=>s.own x j hx0 (hcut _ _ hj).2,fun x hx=>?_,s.m,fun x hx=>?_⟩
  · obtain ⟨h0,h1⟩:=h.h b bx' hb
    rcases h1 with h1|⟨bx,h1,h2,h3,hro,h4⟩
    · exact .inl h1
    rcases s.boxes b bx h1 with g0|⟨k,cs,T,g1,g2,g3,g4⟩
    · rcases hro g0.1 with h5|h5
      · exact .inl ⟨h5,by have:=g0.2;omega⟩
      · have:=g0.2;omega
    refine .inr ⟨k,cs,T,hi.ρ _ _ h0 g1,g2,by rw [←h2];exact Nat.le_trans (Nat.mul_le_mul_right _ h3) g3,fun i hi'=>?_⟩
    obtain ⟨es,g5,g6,g7⟩:=g4 i (by omega)
    obtain ⟨h5,h6⟩:=h4 i hi'
    exact ⟨es,by rw [←h2,h5.2];exact g5,hi.leaves h6 (h5.1 _ _ _ g6),by rw [←h2];exact g7⟩
  · have:x < st'.nb:=Nat.lt_of_lt_of_le hx h.nb
    simp [Env.cut,this,s.low x hx]
  · have:¬x < st'.nb:=Nat.not_lt.2 hx
    simp [Env.cut,this]
theorem Wp_weaker {code:Code} {st':St} (h:Weaker c.nb0 st st') (hw:Wp c code Q st'):Wp c code Q st:=fun E a w s=>hw _ a w (h.sr s)
theorem Wp_loopS {x:Code} {ι:Type} (S:ι→St) (m:ι→Nat) (i0:ι) (h0:Weaker c.nb0 st (S i0)) (h:∀i,Wp c x (Nxt (fun st'=>∃j,Weaker c.nb0 st' (S j)∧m j < m i) Q) (S i)):Wp c (.loop x) Q st:=by
  refine Wp_weaker h0 ?_
  intro E a w s b k cs
  have key:∀n i,m i=n→∀E a w,SR c (S i) E a w→∃e a' w',(∃st E,SR c st E a' w'∧Q e st)∧Arrives c.P (lone (b.at a (.code x :: .inLoop x :: k)) cs w) b k cs e a' w':=by
    intro n
    induction n using Nat.strongRecOn with
    | _ n ih =>
      intro i hn E a w s
      obtain ⟨e,a1,w1,⟨st1,E1,s1,q⟩,harr⟩:=h i E a w s b (.inLoop x :: k) cs
      cases e with
      | normal =>
        obtain ⟨j,hw,hlt⟩:=q
        obtain ⟨e2,a2,w2,q2,harr2⟩:=ih (m j) (hn ▸ hlt) j rfl _ a1 w1 (hw.sr s1)
        exact ⟨e2,a2,w2,q2,.of_steps (Steps.trans harr (.one step_inLoop)) harr2⟩
      | exit id=>exact ⟨_,a1,w1,⟨st1,E1,s1,q⟩,.pass (x:=.inLoop x) rfl (fun _ _=>.inl (by simp)) harr⟩
      | goto l=>exact ⟨_,a1,w1,⟨st1,E1,s1,q⟩,.pass (x:=.inLoop x) rfl (fun _ _=>.inl (by simp)) harr⟩
      | ret=>exact ⟨_,a1,w1,⟨st1,E1,s1,q⟩,.pass (x:=.inLoop x) rfl (fun _ _=>.inl (by simp)) harr⟩
      | panic ch=>exact ⟨_,a1,w1,⟨st1,E1,s1,q⟩,.pass (x:=.inLoop x) rfl (fun _ _=>.inl (by simp)) harr⟩
      | outgrown=>exact ⟨_,a1,w1,⟨st1,E1,s1,q⟩,.pass (x:=.inLoop x) rfl (fun _ _=>.inl (by simp)) harr⟩
  obtain ⟨e,a',w',hq,harr⟩:=key _ i0 rfl E a w s
  exact ⟨e,a',w',hq,.of_steps (.one step_loop) harr⟩
theorem Wp_loopI {x:Code} {α:Type} (S:α→St) (I:α→Prop) (m:α→Nat) (i0:α) (hi:I i0) (h0:Weaker c.nb0 st (S i0)) (h:∀i,I i→Wp c x (Nxt (fun st'=>∃j,I j∧m j < m i∧Weaker c.nb0 st' (S j)) Q) (S i)):Wp c (.loop x) Q st:=
  Wp_loopS (ι:={ a // I a }) (fun a=>S a.1) (fun a=>m a.1) ⟨i0,hi⟩ h0 fun i=>(h i.1 i.2).mono fun e st' q=>by
    cases e with
    | normal=>obtain ⟨j,h1,h2,h3⟩:=q;exact ⟨⟨j,h1⟩,h3,h2⟩
    | _=>exact q
theorem Wp_join {x y:Code} {α:Type} {Q':Exit→St→Prop} (S:α→St) (I:α→Prop) (h:Wp c x (Nxt (fun st'=>∃j,I j∧Weaker c.nb0 st' (S j)) Q) st) (h2:∀i,I i→Wp c y Q' (S i)):Wp c x (Nxt (Wp c y Q') Q) st:=by
  refine h.mono fun e st' q=>?_
  cases e with
  | normal=>obtain ⟨j,h1,hj⟩:=q;exact Wp_weaker hj (h2 j h1)
  | _=>exact q
/-! ## Weaker, by tables -/
def SlotsOk (nb:Nat):List (AV×AV)→Prop
  | []=>True
  | (x,y) :: r=>(Sub x y∧y.cl nb)∧SlotsOk nb r
def BoxesOk (nb:Nat):List (Nat×Option Box×Box)→Prop
  | []=>True
  | (b,x,y) :: r=>(Nat.ble (b+1) nb=true∧((y.ro=true∧y.n=0)∨∃bx,x=some bx∧bx.sz=y.sz∧y.n≤bx.n∧(bx.ro=true→y.ro=true∨0 < bx.n)∧∀i,i < y.n→SubLv (bx.g i) (y.g i)∧clL nb (y.g i)))∧BoxesOk nb r
def slotPairs (t:Nat→AV):List (Nat×AV)→List (AV×AV)
  | []=> []
  | (k,x) :: r=>(t k,x) :: slotPairs t r
def boxPairs (h:Nat→Option Box):List (Nat×Box)→List (Nat×Option Box×Box)
  | []=> []
  | (k,x) :: r=>(k,h k,x) :: boxPairs h r
theorem slots_ok {nb:Nat} {t:Nat→AV}:∀{l:List (Nat×AV)},SlotsOk nb (slotPairs t l)→∀m,Sub (t m) (slots l m)∧(slots l m).cl nb
  | [],_,m=>⟨fun _ _ _ _=>trivial,trivial⟩
  | (k, x) :: r, h, m => by
    unfold slots slotL
    cases e:Nat.beq m k with
    | true=>rw [Nat.eq_of_beq_eq_true e];exact h.1
    | false=>exact slots_ok h.2 m
theorem boxes_ok {nb:Nat} {h:Nat→Option Box}:∀{l:List (Nat×Box)},BoxesOk nb (boxPairs h l)→∀b bx',boxes l b=some bx'→b < nb∧((bx'.ro=true∧bx'.n=0)∨∃bx,h b=some bx∧bx.sz=bx'.sz∧bx'.n≤bx.n∧(bx.ro=true→bx'.ro=true∨0 < bx.n)∧∀i,i < bx'.n→SubLv (bx.g i) (bx'.g i)∧clL nb (bx'.g i))
  | [],_,b,bx',e=>(by cases e)
  | (k, x) :: r, hh, b, bx', e => by
    unfold boxes boxL at e
    cases e1:Nat.beq b k with
    | true=>rw [e1] at e;cases e;rw [Nat.eq_of_beq_eq_true e1];exact ⟨Nat.le_of_ble_eq_true hh.1.1,hh.1.2⟩
    | false=>rw [e1] at e;exact boxes_ok hh.2 b bx' e
theorem weaker_of {nb0:Nat} {l:List (Nat×AV)} {hs:List (Nat×Box)} {nb:Nat} (h1:SlotsOk nb (slotPairs st.t l)) (h2:BoxesOk nb (boxPairs st.h hs)) (h3:Nat.ble nb0 nb=true):Weaker nb0 st (stOf l hs nb):=
  ⟨slots_ok h1,boxes_ok h2,Nat.le_of_ble_eq_true h3⟩
theorem slotsOk_nil {nb:Nat}:SlotsOk nb []:=trivial
theorem slotsOk_cons {nb:Nat} {x y:AV} {r:List (AV×AV)} (h2:y.cl nb) (h1:Sub x y) (h3:SlotsOk nb r):SlotsOk nb ((x,y) :: r):=⟨⟨h1,h2⟩,h3⟩
theorem slotsOk_eq {nb:Nat} {x:AV} {r:List (AV×AV)} (h2:x.cl nb) (h3:SlotsOk nb r):SlotsOk nb ((x,x) :: r):=⟨⟨Sub.refl x,h2⟩,h3⟩
theorem boxesOk_nil {nb:Nat}:BoxesOk nb []:=trivial
theorem boxesOk_cons {nb b n n' sz:Nat} {g g':Nat→List Leaf} {ro':Bool} {r:List (Nat×Option Box×Box)} (h0:Nat.ble (b+1) nb=true) (hcl:∀i,i < n→clL nb (g' i)) (hn:n=n') (h:∀i,i < n→g i=g' i) (h3:BoxesOk nb r):BoxesOk nb ((b,some ⟨sz,n,g,false⟩,⟨sz,n',g',ro'⟩) :: r):=
  ⟨⟨h0,.inr ⟨_,rfl,rfl,Nat.le_of_eq hn.symm,(fun e=>(by cases e)),fun i hi=>⟨SubLv.of_eq (h i (hn ▸ hi)),hcl i (hn ▸ hi)⟩⟩⟩,h3⟩
theorem boxesOk_cons_t {nb b n n' sz:Nat} {g g':Nat→List Leaf} {ro:Bool} {r:List (Nat×Option Box×Box)} (h0:Nat.ble (b+1) nb=true) (hcl:∀i,i < n→clL nb (g' i)) (hn:n=n') (h:∀i,i < n→g i=g' i) (h3:BoxesOk nb r):BoxesOk nb ((b,some ⟨sz,n,g,ro⟩,⟨sz,n',g',true⟩) :: r):=
  ⟨⟨h0,.inr ⟨_,rfl,rfl,Nat.le_of_eq hn.symm,(fun _=>.inl rfl),fun i hi=>⟨SubLv.of_eq (h i (hn ▸ hi)),hcl i (hn ▸ hi)⟩⟩⟩,h3⟩
theorem boxesOk_pos {nb b n n' sz:Nat} {g g':Nat→List Leaf} {ro ro':Bool} {r:List (Nat×Option Box×Box)} (h0:Nat.ble (b+1) nb=true) (hp:0 < n') (hcl:∀i,i < n'→clL nb (g' i)) (hn:n'≤n) (h:∀i,i < n'→g i=g' i) (h3:BoxesOk nb r):BoxesOk nb ((b,some ⟨sz,n,g,ro⟩,⟨sz,n',g',ro'⟩) :: r):=
  ⟨⟨h0,.inr ⟨_,rfl,rfl,hn,(fun _=>.inr (Nat.lt_of_lt_of_le hp hn)),fun i hi=>⟨SubLv.of_eq (h i hi),hcl i hi⟩⟩⟩,h3⟩
theorem boxesOk_none {nb b sz:Nat} {x:Option Box} {g':Nat→List Leaf} {r:List (Nat×Option Box×Box)} (h0:Nat.ble (b+1) nb=true) (h3:BoxesOk nb r):BoxesOk nb ((b,x,⟨sz,0,g',true⟩) :: r):=⟨⟨h0,.inl ⟨rfl,rfl⟩⟩,h3⟩
theorem sub_int {k:IntKind} {a b:Int} (h:a=b):Sub (.one (.v (.int k a))) (.one (.v (.int k b))):=h ▸ Sub.refl _
theorem sub_own_eq {b sz i n c n' c':Nat} (hn:n=n') (hc:c=c'):Sub (.one (.own b sz i n c)) (.one (.own b sz i n' c')):=hn ▸ hc ▸ Sub.refl _
/-! ## A table of types -/
inductive TyTree where
  | nil
  | node (l:TyTree) (k:Nat) (v:TyI) (r:TyTree)
def TyTree.find:TyTree→Nat→Option TyI
  | .nil,_=>none
  | .node l k v r, n => match Nat.beq n k with
    | true=>some v
    | false => match Nat.ble n k with
      | true=>l.find n
      | false=>r.find n
def TyTree.Ok (P:Program):TyTree→Prop
  | .nil=>True
  | .node l k v r=>l.Ok P∧tyI P k=some v∧r.Ok P
theorem ttOk_of_tree {P:Program}:∀{t:TyTree},t.Ok P→TtOk P t.find
  | .nil,_=>fun _ _ h=>(by cases h)
  | .node l k v r, ⟨h1, h2, h3⟩ => fun T ti h => by
    unfold TyTree.find at h
    split at h
    · rename_i e;cases h;rw [Nat.eq_of_beq_eq_true e];exact h2
    · split at h
      · exact ttOk_of_tree h1 T ti h
      · exact ttOk_of_tree h3 T ti h
-- axioms of Wp_loopS
end Go.Ax
end
section
namespace Go.Ax
theorem getD_snoc (o:List Nat) (d j:Nat):(o++ [d]).getD j 0=if j=o.length then d else o.getD j 0:=by
  simp only [List.getD_eq_getElem?_getD]
  by_cases h:j=o.length
  · subst h;simp
  · rw [if_neg h]
    rcases Nat.lt_or_ge j o.length with h1|h1
    · rw [List.getElem?_append_left h1]
    · rw [List.getElem?_eq_none (by simp;omega),List.getElem?_eq_none h1]
theorem box_snoc {k:IntKind} {o:List Nat} {X:Int} {d p:Nat} (j:Nat) (hp:p=o.length) (hX:X=(d:Int)) :
    (if j=p then [Leaf.v (.int k X)] else [Leaf.v (.int k ((o.getD j 0:Nat):Int))])= [Leaf.v (.int k (((o++ [d]).getD j 0:Nat):Int))]:=by
  subst hp hX
  rw [getD_snoc]
  split <;> rfl
theorem box_set {k:IntKind} {o:List Nat} {X:Int} {d p i:Nat} (j:Nat) (hp:p=i) (hX:X=(d:Int)) (hi:i < o.length) :
    (if j=p then [Leaf.v (.int k X)] else [Leaf.v (.int k ((o.getD j 0:Nat):Int))])= [Leaf.v (.int k (((o.set i d).getD j 0:Nat):Int))]:=by
  subst hp hX
  simp only [List.getD_eq_getElem?_getD]
  by_cases h:j=p
  · subst h;simp [hi]
  · rw [if_neg h,List.getElem?_set_ne (fun e'=>h e'.symm)]
abbrev G0:World→Prop:=fun _=>True
theorem pure_any {P:Program} {G:World→Prop} {f:FuncId} {args:List AV} {r:AV} (h:Pure P G0 f args r):Pure P G f args r:=⟨h.callable,h.cl,fun E w vs a b _ d e=>h.calls E w vs a b trivial d e⟩
theorem write_any {P:Program} {G:World→Prop} {f:FuncId} {bx bx':Box} {args:List AV} {r:AV} (h:WriteC P G0 f bx args r bx'):WriteC P G f bx args r bx':=⟨h.nro,h.callable,h.one,h.cl,h.bcl,fun E w vs k a b c d _ e f=>h.calls E w vs k a b c d trivial e f⟩
theorem pure_of_fresh {P:Program} {G:World→Prop} {f:FuncId} {args:List AV} {n:Nat} {g:Nat→List Leaf} (k:IntKind) (ls:List Int) (h:FreshC P G f args 1 n n n g) (hn:ls.length=n) (hg:∀i,i < n→g i= [.v (.int k (ls.getD i 0))]):Pure P G f args (.one (.ints k ls)):=by
  refine ⟨h.callable,⟨h.cl,trivial⟩,fun E w vs hE hok hgw _ hvs=>(h.calls E w vs (fun b=>hE b (Nat.zero_le _)) hok hgw hvs).mono fun e w' ⟨kb,h1,h2,h3,h4,h5⟩=>⟨_,h1,⟨rfl,_,rfl,.inr ⟨kb,0,n,by rw [hn],⟨h3,fun hM=>?_,fun b=>?_⟩,by omega,fun j v hv=>?_⟩⟩,h4⟩⟩
  · have:=hok.m kb hM;omega
  · rw [hE b (Nat.zero_le _)];exact fun h=>(by cases h)
  · rcases h5 with ⟨q,_⟩|⟨kb',c,T,q1,q2,q3,q4⟩
    · cases q
    have q1:some kb=some kb':=by simpa [Env.add] using q1
    cases q1
    have hj:j < n:=by have:=(List.getElem?_eq_some_iff.1 hv).1;simp at this;omega
    obtain ⟨es,h5,h6,h7⟩:=q4 j hj
    dsimp only at h6 h7
    rw [hg j hj] at h6
    obtain ⟨xs,ys,rfl,⟨rfl,_⟩,h9⟩:=h6
    obtain rfl:ys= []:=h9
    have:=h7 0 (.int k (ls.getD j 0)) rfl
    rw [cell_of_row w' kb _ c T (0,0) q2]
    simp only [Nat.mul_one,Nat.add_zero] at this
    rw [Nat.zero_add,this,←hv]
    have hj':j < ls.length:=by omega
    simp [List.getD_eq_getElem?_getD,hj']
theorem sub_tup2 {x1 x2 y1 y2:AV} (h1:Sub x1 y1) (h2:Sub x2 y2):Sub (.tup [x1,x2]) (.tup [y1,y2]):=by
  rintro E w v ⟨vs,hv,v1,r,e,a1,v2,r',e',a2,e''⟩
  exact ⟨vs,hv,v1,r,e,h1 _ _ _ a1,v2,r',e',h2 _ _ _ a2,e''⟩
theorem sub_nil {k:IntKind}:Sub (.one (.v (.slice none 0 0))) (.one (.ints k [])):=by
  rintro E w v ⟨_,h,_⟩
  simp only [List.cons.injEq,and_true] at h
  exact ⟨rfl,v,rfl,.inl ⟨rfl,h⟩⟩
theorem sub_row_ints {n:Nat} {g:Nat→List Leaf} {k:IntKind} {ls:List Int} (hn:ls.length=n) (hg:∀i,i < n→g i= [.v (.int k (ls.getD i 0))]):Sub (.one (.row 1 n g)) (.one (.ints k ls)):=by
  rintro E w v ⟨_,h⟩
  refine ⟨rfl,v,rfl,?_⟩
  rcases h with ⟨h0,h⟩|⟨b,o,c,h,h1,h2,h3⟩
  · simp only [List.cons.injEq,and_true] at h
    exact .inl ⟨List.length_eq_zero_iff.1 (by omega),h⟩
  · simp only [List.cons.injEq,and_true] at h
    refine .inr ⟨b,o,c,by rw [hn];exact h,h1,by omega,fun j x hx=>?_⟩
    have hj:j < n:=by have:=(List.getElem?_eq_some_iff.1 hx).1;simp at this;omega
    obtain ⟨es,h5,h6,h7⟩:=h3 j hj
    rw [hg j hj] at h6
    obtain ⟨xs,ys,rfl,⟨rfl,_⟩,h9⟩:=h6
    obtain rfl:ys= []:=h9
    have:=h7 0 (.int k (ls.getD j 0)) rfl
    simp only [Nat.mul_one,Nat.add_zero] at this
    rw [this,←hx]
    have hj':j < ls.length:=by omega
    simp [List.getD_eq_getElem?_getD,hj']
variable {c:Ctx} {Q:Exit→St→Prop} {st:St}
theorem slots_thaw {b n:Nat} {k:IntKind} {f:Nat→Int} (l:List (Nat×AV)) (m:Nat):thaw b k n f (slots l m)=slots (l.map fun p=>(p.1,thaw b k n f p.2)) m:=by
  induction l with
  | nil=>rfl
  | cons p l ih =>
    obtain ⟨x,a⟩:=p
    simp only [slots,slotL,List.map_cons]
    cases Nat.beq m x with
    | true=>rfl
    | false=>exact ih
theorem boxes_thaw {b n:Nat} {k:IntKind} {f:Nat→Int} (l:List (Nat×Box)) (m:Nat):(boxes l m).map (thawBox b k n f)=boxes (l.map fun p=>(p.1,thawBox b k n f p.2)) m:=by
  induction l with
  | nil=>rfl
  | cons p l ih =>
    obtain ⟨x,a⟩:=p
    simp only [boxes,boxL,List.map_cons]
    cases Nat.beq m x with
    | true=>rfl
    | false=>exact ih
theorem Wp_frz {code:Code} (hc:CtxOk c) (b s n:Nat) (k:IntKind) (ls:List Int) (l:List (Nat×AV)) (hs:List (Nat×Box)) (nb:Nat) (l':List (Nat×AV)) (hs':List (Nat×Box))
    (hw:Weaker c.nb0 st (stOf ((s,.one (.own b 1 0 n n)) :: l) ((b,⟨1,n,fun i=> [.v (.int k (ls.getD i 0))],false⟩) :: hs) nb))
    (hb:c.nb0≤b) (hn:ls.length=n)
    (hl:l.map (fun p=>(p.1,thaw b k n (fun i=>ls.getD i 0) p.2))=l') (hh:hs.map (fun p=>(p.1,thawBox b k n (fun i=>ls.getD i 0) p.2))=hs') (hnb:∀p∈hs,p.1≠b)
    (h:Wp c code Q (stOf ((s,.one (.ints k ls)) :: l') hs' nb)):Wp c code Q st:=by
  refine Wp_weaker hw ?_
  refine Wp_freeze hc b hb (bx:=⟨1,n,fun i=> [.v (.int k (ls.getD i 0))],false⟩) (by simp [stOf,boxes,boxL]) rfl k (fun i=>ls.getD i 0) (fun i _=>rfl) ?_
  have e:(List.range n).map (fun j=>ls.getD (0+j) 0)=ls:=by
    subst hn
    apply List.ext_getElem
    · simp
    · intro i h1 h2;simp [h2]
  have et:(⟨fun m=>thaw b k n (fun i=>ls.getD i 0) ((stOf ((s,.one (.own b 1 0 n n)) :: l) ((b,⟨1,n,fun i=> [.v (.int k (ls.getD i 0))],false⟩) :: hs) nb).t m),fun x=>if x=b then none else ((stOf ((s,.one (.own b 1 0 n n)) :: l) ((b,⟨1,n,fun i=> [.v (.int k (ls.getD i 0))],false⟩) :: hs) nb).h x).map (thawBox b k n (fun i=>ls.getD i 0)),nb⟩:St)=stOf ((s,.one (.ints k ls)) :: l') hs' nb:=by
    simp only [stOf,St.mk.injEq,and_true]
    refine ⟨?_,?_⟩
    · funext m
      rw [slots_thaw,List.map_cons,hl]
      simp only [thaw,thawL,if_true,Nat.zero_add,Nat.le_refl,and_self]
      have e':(List.range n).map (fun j=>ls.getD j 0)=ls:=by simpa using e
      rw [e']
    · funext x
      by_cases hx:x=b
      · subst hx
        rw [if_pos rfl]
        have:∀(q:List (Nat×Box)),(∀p∈q,p.1≠x)→boxes q x=none:=by
          intro q
          induction q with
          | nil=>intro _;rfl
          | cons p q ih =>
            intro hq
            have h1:=hq p (List.mem_cons_self ..)
            simp only [boxes,boxL]
            cases e1:Nat.beq x p.1 with
            | true=>exact absurd (Nat.eq_of_beq_eq_true e1).symm h1
            | false=>exact ih fun p hp=>hq p (List.mem_cons_of_mem _ hp)
        rw [this]
        intro p hp
        rw [←hh] at hp
        obtain ⟨q,hq,rfl⟩:=List.mem_map.1 hp
        exact hnb q hq
      · rw [if_neg hx]
        have:boxes ((b,⟨1,n,fun i=> [.v (.int k (ls.getD i 0))],false⟩) :: hs) x=boxes hs x:=by
          simp only [boxes,boxL]
          cases e1:Nat.beq x b with
          | true=>exact absurd (Nat.eq_of_beq_eq_true e1) hx
          | false=>rfl
        rw [this,boxes_thaw,hh]
  rw [←et] at h
  exact h
end Go.Ax
end
section
namespace Go.Ax
theorem val_append (B:Nat):∀xs ys:List Nat,val B (xs++ys)=val B xs+B ^ xs.length*val B ys
  | [],ys=>by simp [val]
  | x :: xs, ys => by
    simp only [List.cons_append,val,val_append B xs ys,List.length_cons,Nat.pow_succ]
    rw [Nat.mul_add,Nat.add_assoc,←Nat.mul_assoc,Nat.mul_comm B (B ^ xs.length)]
theorem val_lt (B:Nat):∀xs:List Nat,(∀d∈xs,d < B)→val B xs < B ^ xs.length
  | [],_=>by simp [val]
  | x :: xs, h => by
    have h1:=val_lt B xs fun d hd=>h d (by simp [hd])
    have h2:=h x (by simp)
    simp only [val,List.length_cons,Nat.pow_succ]
    have:B*(val B xs+1)≤B*B ^ xs.length:=Nat.mul_le_mul_left B h1
    rw [Nat.mul_add] at this
    rw [Nat.mul_comm (B ^ xs.length) B]
    omega
abbrev toI (l:List Nat):List Int:=l.map Int.ofNat
def trimL:List Nat→List Nat
  | []=> []
  | d :: ds => match trimL ds with
    | []=>if d=0 then [] else [d]
    | r=>d :: r
theorem trimL_cons (d:Nat) (ds:List Nat):trimL (d :: ds)=if trimL ds= []∧d=0 then [] else d :: trimL ds:=by
  simp only [trimL]
  cases h:trimL ds with
  | nil=>by_cases e:d=0 <;> simp [e]
  | cons a r=>simp
theorem trimL_val (B:Nat):∀xs:List Nat,val B (trimL xs)=val B xs
  | []=>rfl
  | x :: xs => by
    rw [trimL_cons]
    split
    · rename_i h
      have:=trimL_val B xs
      rw [h.1] at this
      simp [val,h.2,←this]
    · simp [val,trimL_val B xs]
theorem trimL_mem:∀{xs:List Nat} {d:Nat},d∈trimL xs→d∈xs
  | [],_,h=>h
  | x :: xs, d, h => by
    rw [trimL_cons] at h
    split at h
    · cases h
    · rcases List.mem_cons.1 h with h|h
      · simp [h]
      · simp [trimL_mem h]
theorem trimL_last:∀xs:List Nat,(trimL xs).getLast?≠some 0
  | []=>by simp [trimL]
  | x :: xs => by
    rw [trimL_cons]
    split
    · simp
    · rename_i h
      cases ht:trimL xs with
      | nil =>
        have:x≠0:=fun e=>h ⟨ht,e⟩
        simpa using this
      | cons a r =>
        have:=trimL_last xs
        rw [ht] at this
        rw [List.getLast?_cons_cons]
        exact this
structure Dig (B:Nat) (ds:List Nat):Prop where
  lt:∀d∈ds,d < B
  last:ds.getLast?≠some 0
theorem Dig.nil (B:Nat):Dig B []:=⟨(fun _ h=>by cases h),(by simp)⟩
theorem Dig.trim {B:Nat} {xs:List Nat} (h:∀d∈xs,d < B):Dig B (trimL xs):=⟨fun d hd=>h d (trimL_mem hd),trimL_last xs⟩
theorem Dig.tail {B d:Nat} {ds:List Nat} (h:Dig B (d :: ds)):Dig B ds:=by
  refine ⟨fun x hx=>h.lt x (by simp [hx]),fun e=>h.last ?_⟩
  cases ds with
  | nil=>cases e
  | cons a r=>rw [List.getLast?_cons_cons];exact e
theorem Dig.pos {B:Nat} (hB:0 < B):∀{ds:List Nat},Dig B ds→ds≠[]→0 < val B ds
  | [],_,h=>absurd rfl h
  | [d], h, _ => by
    have:d≠0:=fun e=>h.last (by simp [e])
    simp [val];omega
  | d :: e :: r, h, _ => by
    have:=Dig.pos hB h.tail (by simp)
    simp only [val] at this ⊢
    have h2:0 < B*(e+B*val B r):=Nat.mul_pos hB this
    omega
theorem Dig.eq {B:Nat} (hB:0 < B):∀{xs ys:List Nat},Dig B xs→Dig B ys→val B xs=val B ys→xs=ys
  | [],[],_,_,_=>rfl
  | [],y :: ys,_,hy,h=>by have:=hy.pos hB (by simp);rw [←h] at this;simp [val] at this
  | x :: xs,[],hx,_,h=>by have:=hx.pos hB (by simp);rw [h] at this;simp [val] at this
  | x :: xs, y :: ys, hx, hy, h => by
    simp only [val] at h
    have h1:=hx.lt x (by simp)
    have h2:=hy.lt y (by simp)
    have e1:x=y:=by
      have:=congrArg (·%B) h
      simpa [Nat.add_mul_mod_self_left,Nat.mod_eq_of_lt h1,Nat.mod_eq_of_lt h2] using this
    subst e1
    have e2:val B xs=val B ys:=by
      have:B*val B xs=B*val B ys:=by omega
      exact Nat.eq_of_mul_eq_mul_left hB this
    rw [Dig.eq hB hx.tail hy.tail e2]
def digs (B n:Nat):List Nat:=go n n
where
  go:Nat→Nat→List Nat
    | 0,_=> []
    | f+1,n=>if n=0 then [] else n%B :: go f (n / B)
theorem digs_go {B:Nat} (hB:2≤B):∀f n,n≤f→val B (digs.go B f n)=n∧Dig B (digs.go B f n)
  | 0, n, h => by obtain rfl : n = 0 := by omega
                  exact ⟨rfl,Dig.nil B⟩
  | f + 1, n, h => by
    simp only [digs.go]
    split
    · rename_i e;subst e;exact ⟨rfl,Dig.nil B⟩
    · rename_i e
      have hlt:n / B < n:=Nat.div_lt_self (by omega) (by omega)
      obtain ⟨h1,h2⟩:=digs_go hB f (n / B) (by omega)
      refine ⟨?_,fun d hd=>?_,fun hl=>?_⟩
      · simp only [val,h1];exact Nat.mod_add_div n B
      · rcases List.mem_cons.1 hd with rfl|hd
        · exact Nat.mod_lt _ (by omega)
        · exact h2.lt d hd
      · cases hg:digs.go B f (n / B) with
        | nil =>
          rw [hg] at hl h1
          simp only [List.getLast?_singleton,Option.some.injEq] at hl
          simp only [val] at h1
          have:=Nat.mod_add_div n B
          rw [hl,←h1] at this
          omega
        | cons a r =>
          rw [hg,List.getLast?_cons_cons] at hl
          exact h2.last (by rw [hg];exact hl)
theorem digs_val {B:Nat} (hB:2≤B) (n:Nat):val B (digs B n)=n:=(digs_go hB n n (Nat.le_refl n)).1
theorem digs_dig {B:Nat} (hB:2≤B) (n:Nat):Dig B (digs B n):=(digs_go hB n n (Nat.le_refl n)).2
theorem digs_eq {B:Nat} (hB:2≤B) {ds:List Nat} (h:Dig B ds):digs B (val B ds)=ds:=(digs_dig hB _).eq (by omega) h (digs_val hB _)
theorem digs_of {B n:Nat} (hB:2≤B) {ds:List Nat} (h:Dig B ds) (hv:val B ds=n):digs B n=ds:=by rw [←hv];exact digs_eq hB h
theorem trimL_digs {B:Nat} (hB:2≤B) {xs:List Nat} (h:∀d∈xs,d < B):trimL xs=digs B (val B xs):=by
  rw [←trimL_val B xs];exact (digs_eq hB (Dig.trim h)).symm
theorem digs_zero (B:Nat):digs B 0= []:=rfl
theorem digs_nil {B n:Nat} (hB:2≤B):digs B n= []↔n=0:=⟨fun h=>by have:=digs_val hB n;rw [h] at this;exact this.symm,fun h=>by subst h;rfl⟩
theorem Dig.lower {B:Nat} (hB:0 < B):∀{ds:List Nat},Dig B ds→ds≠[]→B ^ (ds.length - 1)≤val B ds
  | [],_,h=>absurd rfl h
  | [d], h, _ => by
    have:d≠0:=fun e=>h.last (by simp [e])
    simp [val];omega
  | d :: e :: r, h, _ => by
    have:=Dig.lower hB h.tail (by simp)
    simp only [List.length_cons,Nat.add_sub_cancel,val] at this ⊢
    have h2:B*B ^ r.length≤B*(e+B*val B r):=Nat.mul_le_mul_left B this
    rw [Nat.pow_succ,Nat.mul_comm]
    omega
theorem digs_len_le {B n k:Nat} (hB:2≤B) (h:n < B ^ k):(digs B n).length≤k:=by
  rcases Nat.lt_or_ge k (digs B n).length with hlt|hge
  · have hne:digs B n≠[]:=by intro e;rw [e] at hlt;simp at hlt
    have h1:=(digs_dig hB n).lower (by omega) hne
    rw [digs_val hB] at h1
    have:B ^ k≤B ^ ((digs B n).length - 1):=Nat.pow_le_pow_right (by omega) (by omega)
    omega
  · exact hge
theorem digs_lt {B n:Nat} (hB:2≤B):n < B ^ (digs B n).length:=by
  have:=val_lt B (digs B n) (digs_dig hB n).lt
  rwa [digs_val hB] at this
end Go.Ax
end
section
namespace Go.Ax
abbrev BB:Nat:=18446744073709551616
theorem val_take_succ (B:Nat) (l:List Nat) (k:Nat):val B (l.take (k+1))=val B (l.take k)+B ^ k*l.getD k 0:=by
  by_cases h:k < l.length
  · rw [List.take_succ_eq_append_getElem h,val_append]
    simp [val,List.getD_eq_getElem?_getD,h,Nat.min_eq_left (Nat.le_of_lt h)]
  · have h:l.length≤k:=by omega
    rw [List.take_of_length_le h,List.take_of_length_le (by omega)]
    simp [List.getD_eq_getElem?_getD,List.getElem?_eq_none h]
theorem val_take_full (B:Nat) (l:List Nat) {k:Nat} (h:l.length≤k):val B (l.take k)=val B l:=by rw [List.take_of_length_le h]
theorem getD_lt {B:Nat} (hB:0 < B) {l:List Nat} (h:∀d∈l,d < B) (k:Nat):l.getD k 0 < B:=by
  rw [List.getD_eq_getElem?_getD]
  cases e:l[k]? with
  | none=>simpa using hB
  | some d=>exact h d (List.mem_of_getElem? e)
theorem val_snoc (B:Nat) (o:List Nat) (d:Nat):val B (o++ [d])=val B o+B ^ o.length*d:=by rw [val_append];simp [val]
theorem snoc_lt {B:Nat} {o:List Nat} {d:Nat} (h:∀d∈o,d < B) (hd:d < B):∀e∈o++ [d],e < B:=by
  intro e he
  rcases List.mem_append.1 he with he|he
  · exact h e he
  · simp at he;rw [he];exact hd
structure AddTo (B:Nat) (x y o:List Nat) (c:Nat):Prop where
  lt:∀d∈o,d < B
  hc:c≤1
  len:o.length≤x.length
  eq:val B o+B ^ o.length*c=val B (x.take o.length)+val B (y.take o.length)
theorem AddTo.step {B:Nat} (hB:2≤B) {x y o:List Nat} {c:Nat} (h:AddTo B x y o c) (hx:∀d∈x,d < B) (hy:∀d∈y,d < B) (hl:o.length < x.length) :
    AddTo B x y (o++ [(x.getD o.length 0+y.getD o.length 0+c)%B]) ((x.getD o.length 0+y.getD o.length 0+c) / B):=by
  have h1:=getD_lt (by omega) hx o.length
  have h2:=getD_lt (by omega) hy o.length
  have h3:=h.hc
  refine ⟨snoc_lt h.lt (Nat.mod_lt _ (by omega)),?_,by simp;omega,?_⟩
  · have:x.getD o.length 0+y.getD o.length 0+c < 2*B:=by omega
    have:=Nat.div_lt_of_lt_mul (show x.getD o.length 0+y.getD o.length 0+c < B*2 by omega)
    omega
  · rw [val_snoc,List.length_append,List.length_singleton,val_take_succ,val_take_succ]
    have h4:=h.eq
    have h5:=Nat.mod_add_div (x.getD o.length 0+y.getD o.length 0+c) B
    generalize x.getD o.length 0=a at *
    generalize y.getD o.length 0=b at *
    generalize (a+b+c)%B=r at *
    generalize (a+b+c) / B=q at *
    rw [Nat.pow_succ]
    generalize B ^ o.length=p at *
    grind
structure SubTo (B:Nat) (x y o:List Nat) (c:Nat):Prop where
  lt:∀d∈o,d < B
  hc:c≤1
  len:o.length≤x.length
  eq:val B o+val B (y.take o.length)=val B (x.take o.length)+B ^ o.length*c
theorem SubTo.step {B:Nat} (hB:2≤B) {x y o:List Nat} {c:Nat} (h:SubTo B x y o c) (hx:∀d∈x,d < B) (hy:∀d∈y,d < B) (hl:o.length < x.length) :
    SubTo B x y (o++ [(x.getD o.length 0+B - y.getD o.length 0 - c)%B]) (if x.getD o.length 0 < y.getD o.length 0+c then 1 else 0):=by
  have h1:=getD_lt (by omega) hx o.length
  have h2:=getD_lt (by omega) hy o.length
  have h3:=h.hc
  refine ⟨snoc_lt h.lt (Nat.mod_lt _ (by omega)),by split <;> omega,by simp;omega,?_⟩
  rw [val_snoc,List.length_append,List.length_singleton,val_take_succ,val_take_succ]
  have h4:=h.eq
  have h5:(x.getD o.length 0+B - y.getD o.length 0 - c)%B+y.getD o.length 0+c=x.getD o.length 0+B*(if x.getD o.length 0 < y.getD o.length 0+c then 1 else 0):=by
    split
    · rw [Nat.mod_eq_of_lt (by omega)];omega
    · rw [Nat.mod_eq_sub_mod (by omega),Nat.mod_eq_of_lt (by omega)];omega
  generalize x.getD o.length 0=a at *
  generalize y.getD o.length 0=b at *
  generalize (a+B - b - c)%B=r at *
  generalize (if a < b+c then 1 else 0)=q at *
  rw [Nat.pow_succ]
  generalize B ^ o.length=p at *
  grind
theorem AddTo.nil {B:Nat} (x y:List Nat):AddTo B x y [] 0:=⟨(fun _ h=>by cases h),by omega,by simp,by simp [val]⟩
theorem SubTo.nil {B:Nat} (x y:List Nat):SubTo B x y [] 0:=⟨(fun _ h=>by cases h),by omega,by simp,by simp [val]⟩
theorem AddTo.done {B:Nat} {x y o:List Nat} {c:Nat} (h:AddTo B x y o c) (hl:o.length=x.length) (hxy:y.length≤x.length):val B (o++ [c])=val B x+val B y:=by
  rw [val_snoc,h.eq,hl,List.take_length,val_take_full B y hxy]
theorem SubTo.done {B:Nat} {x y o:List Nat} {c:Nat} (h:SubTo B x y o c) (hl:o.length=x.length) (hxy:y.length≤x.length) (hle:val B y≤val B x):val B o=val B x - val B y:=by
  have h1:=h.eq
  rw [hl,List.take_length,val_take_full B y hxy,←hl] at h1
  have h2:=val_lt B o h.lt
  have h3:c=0∨c=1:=by have:=h.hc;omega
  rcases h3 with rfl|rfl <;> omega
def cmpN (m n:Nat):Int:=if m < n then -1 else if n < m then 1 else 0
theorem cmp_len {B:Nat} (hB:2≤B) {x y:List Nat} (hx:Dig B x) (hy:Dig B y) (h:x.length < y.length):val B x < val B y:=by
  have h1:=val_lt B x hx.lt
  have h2:=hy.lower (by omega) (by intro e;rw [e] at h;simp at h)
  have:B ^ x.length≤B ^ (y.length - 1):=Nat.pow_le_pow_right (by omega) (by omega)
  omega
theorem cmp_at {B:Nat} {x y:List Nat} (hx:∀d∈x,d < B) (hl:x.length=y.length) {k:Nat} (hk:k < x.length) (he:x.drop (k+1)=y.drop (k+1)) (h:x.getD k 0 < y.getD k 0):val B x < val B y:=by
  have e1:val B x=val B (x.take (k+1))+B ^ (k+1)*val B (x.drop (k+1)):=by
    conv=>lhs;rw [←List.take_append_drop (k+1) x]
    rw [val_append,List.length_take,Nat.min_eq_left (by omega)]
  have e2:val B y=val B (y.take (k+1))+B ^ (k+1)*val B (y.drop (k+1)):=by
    conv=>lhs;rw [←List.take_append_drop (k+1) y]
    rw [val_append,List.length_take,Nat.min_eq_left (by omega)]
  rw [e1,e2,he,val_take_succ,val_take_succ]
  have h1:=val_lt B (x.take k) fun d hd=>hx d (List.mem_of_mem_take hd)
  rw [List.length_take,Nat.min_eq_left (by omega)] at h1
  have:B ^ k*(x.getD k 0+1)≤B ^ k*y.getD k 0:=Nat.mul_le_mul_left _ h
  rw [Nat.mul_add] at this
  omega
theorem drop_eq_step {x y:List Nat} {k:Nat} (hk:k < x.length) (hl:x.length=y.length) (he:x.drop (k+1)=y.drop (k+1)) (h:x.getD k 0=y.getD k 0):x.drop k=y.drop k:=by
  rw [List.drop_eq_getElem_cons hk,List.drop_eq_getElem_cons (by omega:k < y.length),he]
  simp [List.getD_eq_getElem?_getD,hk,show k < y.length by omega] at h
  rw [h]
end Go.Ax
end
section
namespace Go.Ax
theorem val_set (B:Nat):∀(o:List Nat) (k d:Nat),k < o.length→val B (o.set k d)+B ^ k*o.getD k 0=val B o+B ^ k*d
  | [],k,d,h=>by simp at h
  | x :: o,0,d,h=>by simp [val];omega
  | x :: o, k + 1, d, h => by
    have ih:=val_set B o k d (by simpa using h)
    have e:(x :: o).getD (k+1) 0=o.getD k 0:=by simp [List.getD_eq_getElem?_getD]
    rw [e]
    simp only [List.set_cons_succ,val,Nat.pow_succ]
    generalize o.getD k 0=y at *
    generalize val B (o.set k d)=s at *
    generalize val B o=t at *
    generalize B ^ k=p at *
    grind
theorem getD_set {o:List Nat} {i:Nat} (d j:Nat) (h:i < o.length):(o.set i d).getD j 0=if j=i then d else o.getD j 0:=by
  simp only [List.getD_eq_getElem?_getD]
  by_cases e:j=i
  · subst e;simp [h]
  · rw [List.getElem?_set_ne (fun e'=>e e'.symm),if_neg e]
theorem set_lt {B:Nat} {o:List Nat} (h:∀d∈o,d < B) {i d:Nat} (hd:d < B):∀e∈o.set i d,e < B:=by
  intro e he
  rcases List.mem_or_eq_of_mem_set he with he|he
  · exact h e he
  · rw [he];exact hd
theorem mul_acc {B x y a c hi lo l1 c1 l2 c2:Nat} (hx:x < B) (hy:y < B) (ha:a < B) (hc:c < B)
    (e1:x*y=B*hi+lo) (e2:lo+a=B*c1+l1) (e3:l1+c=B*c2+l2) (h2:l2 < B) :
    hi+c1+c2 < B∧l2+B*(hi+c1+c2)=x*y+a+c:=by
  have e:l2+B*(hi+c1+c2)=x*y+a+c:=by
    rw [Nat.mul_add,Nat.mul_add];omega
  refine ⟨?_,e⟩
  have h3:x*y≤(B - 1)*(B - 1):=Nat.mul_le_mul (by omega) (by omega)
  rcases Nat.lt_or_ge (hi+c1+c2) B with h|h
  · exact h
  · have h4:B*B≤B*(hi+c1+c2):=Nat.mul_le_mul_left B h
    obtain ⟨b,rfl⟩:∃b,B=b+1:=⟨B - 1,by omega⟩
    have h5:(b+1)*(b+1)=b*b+2*b+1:=by grind
    simp only [Nat.add_sub_cancel] at h3
    omega
structure MulTo (B p i x:Nat) (y o:List Nat) (j c:Nat):Prop where
  lt:∀d∈o,d < B
  hc:c < B
  hj:j≤y.length
  len:i+y.length < o.length
  eq:val B o+B ^ (i+j)*c=p+B ^ i*(x*val B (y.take j))
  zero:∀k,i+y.length≤k→o.getD k 0=0
theorem MulTo.step {B p i x:Nat} {y o:List Nat} {j c l c':Nat} (h:MulTo B p i x y o j c) (hj:j < y.length) (hl:l < B) (hc':c' < B)
    (e:l+B*c'=x*y.getD j 0+o.getD (i+j) 0+c):MulTo B p i x y (o.set (i+j) l) (j+1) c':=by
  have hlen:=h.len
  refine ⟨set_lt h.lt hl,hc',hj,by rw [List.length_set];exact hlen,?_,fun k hk=>?_⟩
  · have h1:=val_set B o (i+j) l (by omega)
    have h2:=h.eq
    rw [val_take_succ,←Nat.add_assoc,Nat.pow_succ]
    rw [Nat.pow_add] at h1 h2 ⊢
    generalize val B (o.set (i+j) l)=s at *
    generalize val B o=t at *
    generalize val B (y.take j)=v at *
    generalize y.getD j 0=yj at *
    generalize o.getD (i+j) 0=oj at *
    generalize B ^ i=a at *
    generalize B ^ j=b at *
    have h3:a*b*(l+B*c')=a*b*(x*yj+oj+c):=by rw [e]
    grind
  · rw [getD_set _ _ (by omega),if_neg (by omega)];exact h.zero k hk
structure MulRows (B:Nat) (x y o:List Nat) (i:Nat):Prop where
  lt:∀d∈o,d < B
  hi:i≤x.length
  len:o.length=x.length+y.length
  eq:val B o=val B (x.take i)*val B y
  zero:∀k,i+y.length≤k→o.getD k 0=0
theorem MulRows.start {B:Nat} {x y o:List Nat} {i:Nat} (h:MulRows B x y o i) (hi:i < x.length) (hB:0 < B):MulTo B (val B (x.take i)*val B y) i (x.getD i 0) y o 0 0:=
  ⟨h.lt,hB,Nat.zero_le _,by rw [h.len];omega,by rw [h.eq];simp [val],h.zero⟩
theorem MulRows.next {B:Nat} {x y o:List Nat} {i c:Nat} (hi:i < x.length) (hl:o.length=x.length+y.length) (h:MulTo B (val B (x.take i)*val B y) i (x.getD i 0) y o y.length c):MulRows B x y (o.set (i+y.length) c) (i+1):=by
  refine ⟨set_lt h.lt h.hc,hi,by rw [List.length_set];exact hl,?_,fun k hk=>?_⟩
  · have h1:=val_set B o (i+y.length) c h.len
    have h2:=h.eq
    rw [h.zero _ (Nat.le_refl _),Nat.mul_zero,Nat.add_zero] at h1
    rw [List.take_length] at h2
    rw [h1,h2,val_take_succ]
    generalize val B (x.take i)=a
    generalize val B y=b
    generalize x.getD i 0=d
    generalize B ^ i=e
    grind
  · rw [getD_set _ _ h.len,if_neg (by omega)];exact h.zero k (by omega)
theorem val_replicate (B n:Nat):val B (List.replicate n 0)=0:=by
  induction n with
  | zero=>rfl
  | succ n ih=>simp [List.replicate_succ,val,ih]
theorem MulRows.zero' {B:Nat} (hB:0 < B) (x y:List Nat):MulRows B x y (List.replicate (x.length+y.length) 0) 0:=
  ⟨fun d hd=>by rw [(List.mem_replicate.1 hd).2];exact hB,Nat.zero_le _,by simp,by rw [val_replicate];simp [val],fun k _=>by
    simp only [List.getD_eq_getElem?_getD,List.getElem?_replicate];split <;> rfl⟩
theorem MulRows.done {B:Nat} {x y o:List Nat} (h:MulRows B x y o x.length):val B o=val B x*val B y:=by
  have:=h.eq;rwa [List.take_length] at this
/-! ## Long division: the guess of a digit -/
section
variable {B p q r v1 v2 Vl u3 Ul T U V:Nat}
theorem kd_init (hV:V=(v1*B+v2)*p+Vl) (hU:U=(T*B+u3)*p+Ul) (hUl:Ul < p) (hu3:u3 < B) (h:T < (q+1)*v1):U < (q+1)*V:=by
  have h1:(T+1)*B*p≤(q+1)*v1*B*p:=Nat.mul_le_mul_right _ (Nat.mul_le_mul_right _ h)
  have h2:(u3+1)*p≤B*p:=Nat.mul_le_mul_right _ hu3
  have h3:(q+1)*V=(q+1)*v1*B*p+((q+1)*(v2*p)+(q+1)*Vl):=by rw [hV];grind
  have h4:U+(p - Ul)=T*B*p+(u3+1)*p:=by
    have:(u3+1)*p=u3*p+p:=by grind
    have:U=T*B*p+u3*p+Ul:=by rw [hU];grind
    omega
  have h5:(T+1)*B*p=T*B*p+B*p:=by grind
  omega
theorem kd_dec (hV:V=(v1*B+v2)*p+Vl) (hU:U=(T*B+u3)*p+Ul) (hUl:Ul < p) (hT:T=q*v1+r) (h:r*B+u3 < q*v2):U < q*V:=by
  have h1:(r*B+u3+1)*p≤q*v2*p:=Nat.mul_le_mul_right _ h
  have h2:q*V=q*v1*B*p+q*v2*p+q*Vl:=by rw [hV];grind
  have h3:U+(p - Ul)=q*v1*B*p+(r*B+u3+1)*p:=by
    have:(r*B+u3+1)*p=(r*B+u3)*p+p:=by grind
    have:U=q*v1*B*p+(r*B+u3)*p+Ul:=by rw [hU,hT];grind
    omega
  omega
theorem kd_exit (hV:V=(v1*B+v2)*p+Vl) (hU:U=(T*B+u3)*p+Ul) (hVl:Vl < p) (hT:T=q*v1+r) (hq:q < B) (hv1:0 < v1) (h:q*v2≤r*B+u3):q*V≤U+V:=by
  have h1:q*v2*p≤(r*B+u3)*p:=Nat.mul_le_mul_right _ h
  have h2:q*V=q*v1*B*p+q*v2*p+q*Vl:=by rw [hV];grind
  have h3:U=q*v1*B*p+(r*B+u3)*p+Ul:=by rw [hU,hT];grind
  have h4:q*Vl≤B*p:=Nat.mul_le_mul (Nat.le_of_lt hq) (Nat.le_of_lt hVl)
  have h5:1*(B*p)≤v1*(B*p):=Nat.mul_le_mul_right _ hv1
  have h6:V=v1*(B*p)+v2*p+Vl:=by rw [hV];grind
  omega
end
structure MsTo (B q:Nat) (u v o:List Nat) (c b:Nat):Prop where
  lt:∀d∈o,d < B
  hc:c < B
  hb:b≤1
  len:o.length≤v.length
  eq:val B o+q*val B (v.take o.length)=val B (u.take o.length)+B ^ o.length*(c+b)
theorem MsTo.step {B q:Nat} {u v o:List Nat} {c b l c' d b':Nat} (h:MsTo B q u v o c b) (hl:o.length < v.length) (hc':c' < B) (hd:d < B) (hb':b'≤1)
    (e1:q*v.getD o.length 0+c=l+B*c') (e2:d+l+b=u.getD o.length 0+B*b'):MsTo B q u v (o++ [d]) c' b':=by
  refine ⟨snoc_lt h.lt hd,hc',hb',by simp;omega,?_⟩
  rw [val_snoc,List.length_append,List.length_singleton,val_take_succ,val_take_succ,Nat.pow_succ]
  have h2:=h.eq
  generalize val B o=s at *
  generalize val B (v.take o.length)=t at *
  generalize val B (u.take o.length)=w at *
  generalize v.getD o.length 0=vj at *
  generalize u.getD o.length 0=uj at *
  generalize B ^ o.length=a at *
  have h3:a*(q*vj+c)=a*(l+B*c'):=by rw [e1]
  have h4:a*(d+l+b)=a*(uj+B*b'):=by rw [e2]
  grind
theorem MsTo.nil {B q:Nat} (hB:0 < B) (u v:List Nat):MsTo B q u v [] 0 0:=⟨(fun _ h=>by cases h),hB,by omega,by simp,by simp [val]⟩
theorem MsTo.done {B q:Nat} {u v o:List Nat} {c b d b':Nat} (h:MsTo B q u v o c b) (hl:o.length=v.length) (hu:u.length=v.length+1) (e:d+c+b=u.getD v.length 0+B*b') :
    val B (o++ [d])+q*val B v=val B u+B ^ (v.length+1)*b':=by
  have h1:=h.eq
  have h2:val B u=val B (u.take v.length)+B ^ v.length*u.getD v.length 0:=by
    rw [←val_take_succ,List.take_of_length_le (by omega)]
  rw [hl,List.take_length] at h1
  rw [val_snoc,hl,h2,Nat.pow_succ]
  generalize val B o=s at *
  generalize val B v=t at *
  generalize val B (u.take v.length)=w at *
  generalize u.getD v.length 0=uj at *
  generalize B ^ v.length=a at *
  have h4:a*(d+c+b)=a*(uj+B*b'):=by rw [e]
  grind
/-! ## What a step comes to -/
theorem kd_same {B n q U V N b:Nat} (hq:U < (q+1)*V) (hq2:q*V≤U+V) (hN:N < B ^ (n+1)) (hU:U < B ^ (n+1)) (hV:V < B ^ n*1) (e:N+q*V=U+B ^ (n+1)*b) (hb:b=0):q=U / V∧N=U%V:=by
  subst hb
  have e:N+q*V=U:=by omega
  have hlt:N < V:=by rw [Nat.add_mul] at hq;omega
  have h:=Nat.div_mod_unique (show 0 < V by omega) (a:=U) (c:=N) (d:=q) |>.2 ⟨by rw [Nat.mul_comm];exact e,hlt⟩
  exact ⟨h.1.symm,h.2.symm⟩
theorem kd_back {B n q U V N M b:Nat} (hq2:q*V≤U+V) (hN:N < B ^ (n+1)) (hM:M < B ^ (n+1)) (hV:V < B ^ n*1) (hVp:0 < V) (hB:2≤B) (e:N+q*V=U+B ^ (n+1)*b) (hb:b=1) (eM:∃k,M+B ^ (n+1)*k=N+V):q - 1=U / V∧M=U%V∧1≤q:=by
  subst hb
  obtain ⟨k,eM⟩:=eM
  have hpow:B ^ (n+1)=B ^ n*B:=Nat.pow_succ _ _
  have h2:B ^ n*2≤B ^ n*B:=Nat.mul_le_mul_left _ hB
  have hk:k=1:=by
    rcases Nat.lt_or_ge k 1 with h|h
    · obtain rfl:k=0:=by omega
      omega
    · rcases Nat.lt_or_ge k 2 with h'|h'
      · omega
      · have:=Nat.mul_le_mul_left (B ^ (n+1)) h'
        omega
  subst hk
  have h1:1≤q:=by
    rcases Nat.lt_or_ge 0 q with h|h
    · exact h
    · obtain rfl:q=0:=by omega
      omega
  obtain ⟨q',rfl⟩:∃q',q=q'+1:=⟨q - 1,by omega⟩
  rw [Nat.add_mul] at e hq2
  have eU:M+q'*V=U:=by omega
  have hlt:M < V:=by omega
  have h:=Nat.div_mod_unique (show 0 < V by omega) (a:=U) (c:=M) (d:=q') |>.2 ⟨by rw [Nat.mul_comm];exact eU,hlt⟩
  exact ⟨by rw [Nat.add_sub_cancel];exact h.1.symm,h.2.symm,h1⟩
end Go.Ax
end
section
namespace Go.Ax
theorem and_low (a:Int):((BitVec.ofInt 64 a &&& BitVec.ofInt 64 4294967295).toNat:Int)=a%4294967296:=by
  rw [BitVec.toNat_and]
  have h1:(BitVec.ofInt 64 4294967295).toNat=2 ^ 32 - 1:=by decide
  rw [h1,Nat.and_two_pow_sub_one_eq_mod,BitVec.toNat_ofInt]
  omega
theorem and_low' (a:Int):((BitVec.ofInt IntKind.u64.bits a &&& BitVec.ofInt IntKind.u64.bits 4294967295).toNat:Int)=a%4294967296:=and_low a
theorem shr32 (a:Int):a.fdiv (2 ^ min 32 64)=a / 4294967296:=by
  rw [Int.fdiv_eq_ediv_of_nonneg _ (by decide)]
  rfl
theorem mul64 {W:Int→Int} (hW:∀a,0≤a→a < 18446744073709551616→W a=a) {x y x0 x1 y0 y1:Int} (hx:0≤x∧x < 18446744073709551616) (hy:0≤y∧y < 18446744073709551616)
    (ex0:x0=x%4294967296) (ex1:x1=x / 4294967296) (ey0:y0=y%4294967296) (ey1:y1=y / 4294967296) :
    W (W (W (x1*y1)+W (W (x1*W y0)+W (W x0*W y0) / 4294967296) / 4294967296)+W (W (W (W (x1*W y0)+W (W x0*W y0) / 4294967296)%4294967296)+W (W x0*y1)) / 4294967296)=x*y / 18446744073709551616:=by
  have b1:0≤x0∧x0≤4294967295:=by omega
  have b2:0≤x1∧x1≤4294967295:=by omega
  have b3:0≤y0∧y0≤4294967295:=by omega
  have b4:0≤y1∧y1≤4294967295:=by omega
  have ex:x=x1*4294967296+x0:=by omega
  have ey:y=y1*4294967296+y0:=by omega
  have bd:∀a b:Int,0≤a∧a≤4294967295→0≤b∧b≤4294967295→0≤a*b∧a*b≤18446744065119617025:=fun a b h1 h2=>
    ⟨Int.mul_nonneg h1.1 h2.1,Int.le_trans (Int.mul_le_mul h1.2 h2.2 h2.1 (by decide)) (by decide)⟩
  have e:x*y=x1*y1*18446744073709551616+(x1*y0+x0*y1)*4294967296+x0*y0:=by rw [ex,ey];grind
  rw [e,hW x0 (by omega) (by omega),hW y0 (by omega) (by omega)]
  have c1:=bd _ _ b1 b3
  have c2:=bd _ _ b1 b4
  have c3:=bd _ _ b2 b3
  have c4:=bd _ _ b2 b4
  generalize x0*y0=p00 at *
  generalize x0*y1=p01 at *
  generalize x1*y0=p10 at *
  generalize x1*y1=p11 at *
  clear e ex ey ex0 ex1 ey0 ey1 bd hx hy b1 b2 b3 b4
  rw [hW p00 (by omega) (by omega),hW p10 (by omega) (by omega),hW p01 (by omega) (by omega),hW p11 (by omega) (by omega)]
  rw [hW (p10+p00 / 4294967296) (by omega) (by omega)]
  rw [hW ((p10+p00 / 4294967296)%4294967296) (by omega) (by omega),hW (p11+_) (by omega) (by omega),hW (_+p01) (by omega) (by omega),hW _ (by omega) (by omega)]
  omega
end Go.Ax
end
