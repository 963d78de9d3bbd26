/- Lemmas on the program and its library, part VxT. -/
import Derived.OrdersIn
import Derived.RangeFuncIn
import Derived.Test.YtalgbhjnbgkneaaGreatDoorZAx16
set_option linter.unusedVariables false
set_option linter.unusedSimpArgs false
section
namespace Go.Vx
structure N8 (α:Type) where
  a0:α
  a1:α
  a2:α
  a3:α
  a4:α
  a5:α
  a6:α
  a7:α
def N8.get {α:Type} (n:N8 α) (d:Nat):α:=match Nat.ble 4 d with
  | true => match Nat.ble 6 d with
    | true => match Nat.ble 7 d with
      | true=>n.a7
      | false=>n.a6
    | false => match Nat.ble 5 d with
      | true=>n.a5
      | false=>n.a4
  | false => match Nat.ble 2 d with
    | true => match Nat.ble 3 d with
      | true=>n.a3
      | false=>n.a2
    | false => match Nat.ble 1 d with
      | true=>n.a1
      | false=>n.a0
def N8.set {α:Type} (n:N8 α) (d:Nat) (x:α):N8 α:=match n with
  | ⟨a0, a1, a2, a3, a4, a5, a6, a7⟩ => match Nat.ble 4 d with
    | true => match Nat.ble 6 d with
      | true => match Nat.ble 7 d with
        | true=>⟨a0,a1,a2,a3,a4,a5,a6,x⟩
        | false=>⟨a0,a1,a2,a3,a4,a5,x,a7⟩
      | false => match Nat.ble 5 d with
        | true=>⟨a0,a1,a2,a3,a4,x,a6,a7⟩
        | false=>⟨a0,a1,a2,a3,x,a5,a6,a7⟩
    | false => match Nat.ble 2 d with
      | true => match Nat.ble 3 d with
        | true=>⟨a0,a1,a2,x,a4,a5,a6,a7⟩
        | false=>⟨a0,a1,x,a3,a4,a5,a6,a7⟩
      | false => match Nat.ble 1 d with
        | true=>⟨a0,x,a2,a3,a4,a5,a6,a7⟩
        | false=>⟨x,a1,a2,a3,a4,a5,a6,a7⟩
def N8.all {α:Type} (x:α):N8 α:=⟨x,x,x,x,x,x,x,x⟩
theorem N8.get_all {α:Type} (x:α) (d:Nat):(N8.all x).get d=x:=by
  unfold N8.get N8.all
  cases Nat.ble 4 d <;> cases Nat.ble 6 d <;> cases Nat.ble 7 d <;> cases Nat.ble 5 d <;> cases Nat.ble 2 d <;> cases Nat.ble 3 d <;> cases Nat.ble 1 d <;> rfl
theorem N8.get_set {α:Type} (n:N8 α) (x:α):∀(d e:Nat),d < 8→e < 8→(n.set d x).get e=if e=d then x else n.get e:=by
  obtain ⟨a0,a1,a2,a3,a4,a5,a6,a7⟩:=n
  have h:∀(d e:Fin 8),((N8.mk a0 a1 a2 a3 a4 a5 a6 a7).set d.val x).get e.val=if e=d then x else (N8.mk a0 a1 a2 a3 a4 a5 a6 a7).get e.val:=by
    intro d e
    match d,e with
    | 0,0=>rfl|0,1=>rfl|0,2=>rfl|0,3=>rfl|0,4=>rfl|0,5=>rfl|0,6=>rfl|0,7=>rfl
    | 1,0=>rfl|1,1=>rfl|1,2=>rfl|1,3=>rfl|1,4=>rfl|1,5=>rfl|1,6=>rfl|1,7=>rfl
    | 2,0=>rfl|2,1=>rfl|2,2=>rfl|2,3=>rfl|2,4=>rfl|2,5=>rfl|2,6=>rfl|2,7=>rfl
    | 3,0=>rfl|3,1=>rfl|3,2=>rfl|3,3=>rfl|3,4=>rfl|3,5=>rfl|3,6=>rfl|3,7=>rfl
    | 4,0=>rfl|4,1=>rfl|4,2=>rfl|4,3=>rfl|4,4=>rfl|4,5=>rfl|4,6=>rfl|4,7=>rfl
    | 5,0=>rfl|5,1=>rfl|5,2=>rfl|5,3=>rfl|5,4=>rfl|5,5=>rfl|5,6=>rfl|5,7=>rfl
    | 6,0=>rfl|6,1=>rfl|6,2=>rfl|6,3=>rfl|6,4=>rfl|6,5=>rfl|6,6=>rfl|6,7=>rfl
    | 7,0=>rfl|7,1=>rfl|7,2=>rfl|7,3=>rfl|7,4=>rfl|7,5=>rfl|7,6=>rfl|7,7=>rfl
  intro d e hd he
  have:=h ⟨d,hd⟩ ⟨e,he⟩
  simpa [Fin.ext_iff] using this
abbrev Tr (α:Type):Type:=N8 (N8 (N8 (N8 (Option α))))
def Tr.lf {α:Type}:Tr α:=(N8.all (N8.all (N8.all (N8.all none))):N8 (N8 (N8 (N8 (Option α)))))
def dg (k:Nat):Nat:=Nat.mod k 8
def q8 (k:Nat):Nat:=Nat.div k 8
def Tr.getA {α:Type} (t:Tr α) (k:Nat):Option α:=N8.get (N8.get (N8.get (N8.get t (dg (Nat.div k 512))) (dg (Nat.div k 64))) (dg (Nat.div k 8))) (dg k)
def Tr.get {α:Type} (t:Tr α) (k:Nat):Option α:=match Nat.ble k 4095 with
  | true=>Tr.getA t k
  | false=>none
def Tr.set {α:Type} (t:Tr α) (k:Nat) (x:Option α):Tr α:=
  N8.set t (dg (Nat.div k 512)) (N8.set (N8.get t (dg (Nat.div k 512))) (dg (Nat.div k 64)) (N8.set (N8.get (N8.get t (dg (Nat.div k 512))) (dg (Nat.div k 64))) (dg (Nat.div k 8)) (N8.set (N8.get (N8.get (N8.get t (dg (Nat.div k 512))) (dg (Nat.div k 64))) (dg (Nat.div k 8))) (dg k) x)))
theorem beq_t {a b:Nat}:Nat.beq a b=decide (a=b):=by
  by_cases h:a=b
  · subst h;simp
  · simp only [h,decide_false]
    cases e:Nat.beq a b with
    | false=>rfl
    | true=>exact absurd (Nat.eq_of_beq_eq_true e) h
theorem dg_lt (k:Nat):dg k < 8:=Nat.mod_lt _ (by decide)
theorem Tr.get_lf {α:Type} (k:Nat):Tr.get (Tr.lf:Tr α) k=none:=by
  unfold Tr.get
  cases Nat.ble k 4095 with
  | false=>rfl
  | true =>
    dsimp only
    unfold Tr.getA Tr.lf
    rw [N8.get_all,N8.get_all,N8.get_all,N8.get_all]
def Tr.fits (k:Nat):Bool:=Nat.ble k 4095
theorem Tr.get_set {α:Type} {t:Tr α} {k:Nat} (h:Tr.fits k=true) (x:Option α) (m:Nat):Tr.get (Tr.set t k x) m=if m=k then x else Tr.get t m:=by
  have hk:k≤4095:=Nat.le_of_ble_eq_true h
  unfold Tr.get
  cases hm:Nat.ble m 4095 with
  | false=>rw [if_neg (by rintro rfl;rw [show Nat.ble m 4095=true from h] at hm;cases hm)]
  | true=>
  have hm:=Nat.le_of_ble_eq_true hm
  dsimp only
  unfold Tr.getA Tr.set
  rw [N8.get_set _ _ _ _ (dg_lt _) (dg_lt _)]
  have e0:∀j,dg j=j%8:=fun _=>rfl
  have e1:∀j c,Nat.div j c=j / c:=fun _ _=>rfl
  by_cases h3:dg (Nat.div m 512)=dg (Nat.div k 512)
  · rw [if_pos h3,N8.get_set _ _ _ _ (dg_lt _) (dg_lt _)]
    by_cases h2:dg (Nat.div m 64)=dg (Nat.div k 64)
    · rw [if_pos h2,N8.get_set _ _ _ _ (dg_lt _) (dg_lt _)]
      by_cases h1:dg (Nat.div m 8)=dg (Nat.div k 8)
      · rw [if_pos h1,N8.get_set _ _ _ _ (dg_lt _) (dg_lt _)]
        by_cases h0:dg m=dg k
        · rw [if_pos h0,if_pos (by simp only [e0,e1] at h0 h1 h2 h3;omega)]
        · rw [if_neg h0,if_neg (by rintro rfl;exact h0 rfl),h3,h2,h1]
      · rw [if_neg h1,if_neg (by rintro rfl;exact h1 rfl),h3,h2]
    · rw [if_neg h2,if_neg (by rintro rfl;exact h2 rfl),h3]
  · rw [if_neg h3,if_neg (by rintro rfl;exact h3 rfl)]
-- axioms of Tr.get_set
end Go.Vx
end
section
namespace Go.Vx
open Go.RowKit (Below)
inductive VV where
  | s (x:Value)
  | p (b o:Nat)
  | sl (b o e n c:Nat)
  | z0 (b o:Nat)
  | fn (f:Fn) (xs ys:List VV)
  | yl (b:Nat)
  | u1
  | agg (xs:List VV)
  | tup (xs:List VV)
  | u
inductive Ph where
  | fresh
  | live (k s:Nat)
  | dead
mutual
def VV.R (ρ:Nat→Ph):VV→Value→Prop
  | .s x,v=>v=x∧x.oneCell'=true
  | .p b o, v => v.oneCell' = true ∧ (match ρ b with
    | .fresh=>False
    | .dead=>True
    | .live k _=>v= .pointer (some ⟨k,o,none⟩))
  | .sl b o e n c, v => v.oneCell' = true ∧ (match ρ b with
    | .fresh=>False
    | .dead=>True
    | .live k s=>∃C,c≤C∧n≤C∧o+C*e≤s∧v= .slice (some ⟨k,o,none⟩) n C)
  | .z0 b o, v => v.oneCell' = true ∧ (match ρ b with
    | .fresh=>False
    | .dead=>True
    | .live k _=>v= .slice (some ⟨k,o,none⟩) 0 0)
  | .fn f xs ys,v=>∃us vs:List Value,v= .func f us.toArray vs.toArray∧Rs ρ xs us∧Rs ρ ys vs
  | .yl b, v => v.oneCell' = true ∧ (match ρ b with
    | .fresh=>False
    | .dead=>True
    | .live k _=>v= .func (.yield k) #[] #[])
  | .u1,v=>v.oneCell'=true
  | .agg xs,v=>∃cs:List Value,v= .agg cs.toArray∧Rs ρ xs cs∧∀c∈cs,c.oneCell'=true
  | .tup xs,v=>∃vs:List Value,v= .tuple vs.toArray∧Rs ρ xs vs
  | .u,_=>True
def Rs (ρ:Nat→Ph):List VV→List Value→Prop
  | [],vs=>vs= []
  | x :: xs,vs=>∃v r,vs=v :: r∧VV.R ρ x v∧Rs ρ xs r
end
def Ext (ρ ρ':Nat→Ph):Prop:=∀b,(∀k s,ρ b= .live k s→ρ' b= .live k s∨ρ' b= .dead)∧(ρ b= .dead→ρ' b= .dead)
theorem Ext.refl (ρ:Nat→Ph):Ext ρ ρ:=fun _=>⟨fun _ _ h=>.inl h,id⟩
theorem Ext.trans {a b c:Nat→Ph} (h:Ext a b) (g:Ext b c):Ext a c:=fun x=>⟨fun k s hk=>by
  rcases (h x).1 k s hk with h1|h1
  · exact (g x).1 k s h1
  · exact .inr ((g x).2 h1),fun hd=>(g x).2 ((h x).2 hd)⟩
theorem ext_match {ρ ρ':Nat→Ph} (h:Ext ρ ρ') {b:Nat} {p:Nat→Nat→Prop} (hp:match ρ b with
    | .fresh=>False
    | .dead=>True
    | .live k s=>p k s):match ρ' b with
    | .fresh=>False
    | .dead=>True
    | .live k s=>p k s:=by
  cases e:ρ b with
  | fresh=>rw [e] at hp;exact hp.elim
  | dead=>rw [(h b).2 e];trivial
  | live k s =>
    rw [e] at hp
    rcases (h b).1 k s e with h1|h1
    · rw [h1];exact hp
    · rw [h1];trivial
mutual
theorem VV.R.ext {ρ ρ':Nat→Ph} (h:Ext ρ ρ'):∀{x:VV} {v:Value},x.R ρ v→x.R ρ' v
  | .s _,_,hx=>hx
  | .p _ _,_,hx=>⟨hx.1,ext_match h hx.2⟩
  | .sl _ _ _ _ _,_,hx=>⟨hx.1,ext_match h hx.2⟩
  | .z0 _ _,_,hx=>⟨hx.1,ext_match h hx.2⟩
  | .fn _ _ _,_,hx=>by obtain ⟨us,vs,e,h1,h2⟩:=hx;exact ⟨us,vs,e,Rs.ext h h1,Rs.ext h h2⟩
  | .yl _,_,hx=>⟨hx.1,ext_match h hx.2⟩
  | .u1,_,hx=>hx
  | .agg _,_,hx=>by obtain ⟨cs,e,h1,h2⟩:=hx;exact ⟨cs,e,Rs.ext h h1,h2⟩
  | .tup _,_,hx=>by obtain ⟨cs,e,h1⟩:=hx;exact ⟨cs,e,Rs.ext h h1⟩
  | .u,_,_=>trivial
theorem Rs.ext {ρ ρ':Nat→Ph} (h:Ext ρ ρ'):∀{xs:List VV} {vs:List Value},Rs ρ xs vs→Rs ρ' xs vs
  | [],_,hx=>hx
  | _ :: _,_,hx=>by obtain ⟨v,r,e,h1,h2⟩:=hx;exact ⟨v,r,e,VV.R.ext h h1,Rs.ext h h2⟩
end
theorem Rs.len {ρ:Nat→Ph}:∀{xs:List VV} {vs:List Value},Rs ρ xs vs→vs.length=xs.length
  | [],vs,h=>by rw [show vs= [] from h];rfl
  | _ :: _,_,h=>by obtain ⟨v,r,rfl,_,h2⟩:=h;simp [h2.len]
theorem Rs.get {ρ:Nat→Ph}:∀{xs:List VV} {vs:List Value} {i:Nat} {x:VV},Rs ρ xs vs→xs[i]?=some x→∃v,vs[i]?=some v∧x.R ρ v
  | [],_,_,_,_,h=>by simp at h
  | _ :: _,_,0,_,hr,h=>by obtain ⟨v,r,rfl,h1,h2⟩:=hr;cases h;exact ⟨v,rfl,h1⟩
  | _ :: _,_,i+1,_,hr,h=>by obtain ⟨v,r,rfl,h1,h2⟩:=hr;exact h2.get (i:=i) h
theorem Rs.append {ρ:Nat→Ph}:∀{xs ys:List VV} {us vs:List Value},Rs ρ xs us→Rs ρ ys vs→Rs ρ (xs++ys) (us++vs)
  | [],_,us,_,h,g=>by rw [show us= [] from h];exact g
  | _ :: _,_,_,_,h,g=>by obtain ⟨v,r,rfl,h1,h2⟩:=h;exact ⟨v,_,rfl,h1,h2.append g⟩
theorem Rs.take {ρ:Nat→Ph}:∀{xs:List VV} {us:List Value} (n:Nat),Rs ρ xs us→Rs ρ (xs.take n) (us.take n)
  | [],us,_,h=>by rw [show us= [] from h];simp [Rs]
  | _ :: _,_,0,h=>by simp [Rs]
  | _ :: _,_,n+1,h=>by obtain ⟨v,r,rfl,h1,h2⟩:=h;exact ⟨v,_,rfl,h1,h2.take n⟩
theorem Rs.drop {ρ:Nat→Ph}:∀{xs:List VV} {us:List Value} (n:Nat),Rs ρ xs us→Rs ρ (xs.drop n) (us.drop n)
  | [],us,_,h=>by rw [show us= [] from h];simp [Rs]
  | _ :: _,_,0,h=>h
  | _ :: _,_,n+1,h=>by obtain ⟨v,r,rfl,h1,h2⟩:=h;exact h2.drop n
theorem Rs.map {ρ:Nat→Ph} {α:Type} {f:α→VV} {g:α→Value}:∀(l:List α),(∀x∈l,(f x).R ρ (g x))→Rs ρ (l.map f) (l.map g)
  | [],_=>rfl
  | x :: l,h=>⟨g x,_,rfl,h x (by simp),Rs.map l fun y hy=>h y (by simp [hy])⟩
inductive Blk where
  | cells (cs:List VV)
  | arr (n:Nat) (t:Tr VV)
  | loop (st:LoopState) (pend:Option Code) (t:Tr VV) (N:Nat) (ps:Array Tmp) (asg body:Code)
  | dfr
def tvf (t:Tr VV) (n:Nat):VV:=match t.get n with
  | some x=>x
  | none=>.u
def arrL (t:Tr VV):Nat→Nat→List VV
  | 0,_=> []
  | n+1,i=>tvf t i :: arrL t n (Nat.succ i)
def Blk.view:Blk→Blk
  | .arr n t=>.cells (arrL t n 0)
  | x=>x
def TR (ρ:Nat→Ph) (t:Nat→VV) (N:Nat) (a:Array Value):Prop:=a.size=N∧∀n,(t n).R ρ (a.getD n undef)
theorem TR.ext {ρ ρ':Nat→Ph} (h:Ext ρ ρ') {t:Nat→VV} {N:Nat} {a:Array Value} (x:TR ρ t N a):TR ρ' t N a:=⟨x.1,fun n=>(x.2 n).ext h⟩
def BlkR (ρ:Nat→Ph) (w:World) (k s:Nat):Blk→Prop
  | .cells cs=>∃(c:Array Value) (T:TypeId),w.heap[k]?=some (.cells c T (0,0))∧c.size=s∧cs.length≤s∧∀(j:Nat) (x:VV),cs[j]?=some x→∃v,c[j]?=some v∧x.R ρ v∧v.oneCell'=true
  | .arr n t=>∃(c:Array Value) (T:TypeId),w.heap[k]?=some (.cells c T (0,0))∧c.size=s∧(arrL t n 0).length≤s∧∀(j:Nat) (x:VV),(arrL t n 0)[j]?=some x→∃v,c[j]?=some v∧x.R ρ v∧v.oneCell'=true
  | .loop st pend t N ps asg body=>∃r:Loop,w.heap[k]?=some (.loop r)∧r.state=st∧r.pending=pend∧TR ρ (tvf t) N r.tmps∧r.params=ps∧r.assign=asg∧r.body=body
  | .dfr=>w.heap[k]?=some (.deferred (some []))
structure Eff (ρ:Nat→Ph) (w:World) (ρ':Nat→Ph) (w':World) (mod:Nat→Prop):Prop where
  ext:Ext ρ ρ'
  same:∀b,¬mod b→ρ' b=ρ b
  heap:∀k,k < w.heap.size→(∀b s,mod b→ρ b≠.live k s)→w'.heap[k]?=w.heap[k]?
  newk:∀b k s,ρ b≠.live k s→ρ' b= .live k s→w.heap.size≤k∨∃b0 s0,mod b0∧ρ b0= .live k s0
  size:w.heap.size≤w'.heap.size
  os:w'.os=w.os
  tape:w'.tape=w.tape
  output:w'.output=w.output
theorem Eff.refl (ρ:Nat→Ph) (w:World) (mod:Nat→Prop):Eff ρ w ρ w mod:=⟨Ext.refl _,fun _ _=>rfl,fun _ _ _=>rfl,fun _ _ _ h g=>absurd g h,Nat.le_refl _,rfl,rfl,rfl⟩
theorem Eff.mono {ρ w ρ' w'} {mod mod':Nat→Prop} (h:Eff ρ w ρ' w' mod) (hm:∀b,mod b→mod' b):Eff ρ w ρ' w' mod':=
  ⟨h.ext,fun b hb=>h.same b fun x=>hb (hm b x),fun k hk hb=>h.heap k hk fun b s x=>hb b s (hm b x),fun b k s h1 h2=>(h.newk b k s h1 h2).imp id fun ⟨b0,s0,x,y⟩=>⟨b0,s0,hm _ x,y⟩,h.size,h.os,h.tape,h.output⟩
theorem Eff.trans {ρ w ρ' w' ρ'' w''} {mod:Nat→Prop} (h:Eff ρ w ρ' w' mod) (g:Eff ρ' w' ρ'' w'' mod):Eff ρ w ρ'' w'' mod:=by
  have key:∀k,k < w.heap.size→(∀b s,mod b→ρ b≠.live k s)→∀b s,mod b→ρ' b≠.live k s:=by
    intro k hk hb b s hm hl
    rcases h.newk b k s (hb b s hm) hl with h1|⟨b0,s0,h1,h2⟩
    · omega
    · exact hb b0 s0 h1 h2
  refine ⟨h.ext.trans g.ext,fun b hb=>(g.same b hb).trans (h.same b hb),fun k hk hb=>?_,fun b k s h1 h2=>?_,Nat.le_trans h.size g.size,g.os.trans h.os,g.tape.trans h.tape,g.output.trans h.output⟩
  · exact (g.heap k (Nat.lt_of_lt_of_le hk h.size) (key k hk hb)).trans (h.heap k hk hb)
  · by_cases e:ρ' b= .live k s
    · exact h.newk b k s h1 e
    · rcases g.newk b k s e h2 with h3|⟨b0,s0,h3,h4⟩
      · exact .inl (Nat.le_trans h.size h3)
      · by_cases e0:ρ b0= .live k s0
        · exact .inr ⟨b0,s0,h3,e0⟩
        · exact h.newk b0 k s0 e0 h4
theorem BlkR.keep {ρ ρ':Nat→Ph} {w w':World} {k s:Nat} {x:Blk} (hx:BlkR ρ w k s x) (he:Ext ρ ρ') (hw:w'.heap[k]?=w.heap[k]?):BlkR ρ' w' k s x:=by
  cases x with
  | cells cs =>
    obtain ⟨c,T,h1,h2,h2',h3⟩:=hx
    exact ⟨c,T,hw.trans h1,h2,h2',fun j x hj=>let ⟨v,a,b,c⟩:=h3 j x hj;⟨v,a,b.ext he,c⟩⟩
  | arr n t =>
    obtain ⟨c,T,h1,h2,h2',h3⟩:=hx
    exact ⟨c,T,hw.trans h1,h2,h2',fun j x hj=>let ⟨v,a,b,c⟩:=h3 j x hj;⟨v,a,b.ext he,c⟩⟩
  | loop st pend t N ps asg body =>
    obtain ⟨r,h1,h2,h3,h4,h5,h6,h7⟩:=hx
    exact ⟨r,hw.trans h1,h2,h3,h4.ext he,h5,h6,h7⟩
  | dfr=>exact hw.trans hx
theorem BlkR.view {ρ:Nat→Ph} {w:World} {k s:Nat} {x:Blk}:BlkR ρ w k s x.view↔BlkR ρ w k s x:=by cases x <;> exact Iff.rfl
structure WR (w0:World) (ng:Nat) (ρ:Nat→Ph) (h:Nat→Option Blk) (w:World):Prop where
  blk:∀b x,h b=some x→∃k s,ρ b= .live k s∧BlkR ρ w k s x
  own:∀b k s,ρ b= .live k s→(b < ng∧k=b∧k < w0.heap.size)∨(ng≤b∧w0.heap.size≤k)
  lt:∀b k s,ρ b= .live k s→k < w.heap.size
  inj:∀b b' k s s',ρ b= .live k s→ρ b'= .live k s'→b=b'
  below:Below w0.heap.size w0 w
  glob:∀b,b < ng→∃s,ρ b= .live b s
theorem WR.sub {w0 ng ρ h h' w} (x:WR w0 ng ρ h w) (hh:∀b y,h' b=some y→h b=some y):WR w0 ng ρ h' w:=
  ⟨fun b y hb=>x.blk b y (hh b y hb),x.own,x.lt,x.inj,x.below,x.glob⟩
theorem WR.keep {w0 ng ρ ρ' h w w'} {mod:Nat→Prop} (x:WR w0 ng ρ h w) (e:Eff ρ w ρ' w' mod) {b:Nat} {z:Blk} (hb:¬mod b) (hz:h b=some z):∃k s,ρ' b= .live k s∧BlkR ρ' w' k s z:=by
  obtain ⟨k,s,hk,hB⟩:=x.blk b z hz
  exact ⟨k,s,(e.same b hb).trans hk,hB.keep e.ext (e.heap k (x.lt b k s hk) fun b' s' hm hl=>hb (x.inj b' b k s' s hl hk ▸ hm))⟩
end Go.Vx
end
section
namespace Go.Vx
open Go.Ax
open Go.RowKit (Below)
def WF (ro:Option Nat):Fence:={ fn:=fun _=>True,depth:=none,alive:=false,round:=ro }
def evV (t:Nat→VV):Operand→VV
  | .tmp n=>t n
  | .const v => match v with
    | .agg cs=>.agg (cs.toList.map VV.s)
    | .tuple cs => match cs.toList with
      | []=>.tup []
      | _=>.u
    | v=>.s v
  | .global g=>.p g 0
  | .func f=>.fn (.func f) [] []
def StepV (P:Program) (w0:World) (ng:Nat) (o:Oper) (ev:Operand→VV) (h:Nat→Option Blk) (nb nb':Nat) (val:VV) (h':Nat→Option Blk) (mod:Nat→Prop):Prop:=
  ∀(n:Nat) (ro:Option Nat) (ρ:Nat→Ph) (w:World) (a:Act) (K:Act→World→Prop) (Q:Exit→Act→World→Prop),WR w0 ng ρ h w→
    (∀x∈o.op.operands,(ev x).R ρ (a.eval x))→(∀b,nb≤b→b < nb'→ρ b= .fresh)→
    (∀v ρ' w',val.R ρ' v→WR w0 ng ρ' h' w'→Eff ρ w ρ' w' mod→K (a.put o.dst v) w')→o.wpIn (WF ro) n P a w K Q
section
variable {P:Program} {w0:World} {ng:Nat}
theorem wpIn_val {o:Oper} {n:Nat} {ro:Option Nat} {a:Act} {w w':World} {K:Act→World→Prop} {Q:Exit→Act→World→Prop} {v:Value} (hd:∀c,o.op≠.defer c)
    (h:(execOp a.eval o).run P w= .ok (.value v) w') (hK:K (a.put o.dst v) w'):o.wpIn (WF ro) n P a w K Q:=by
  refine ⟨fun _ _=>trivial,?_⟩
  rw [Oper.semAt_eq _ _ _ hd,h]
  exact hK
theorem wpIn_skp {o:Oper} {n:Nat} {ro:Option Nat} {a:Act} {w w':World} {K:Act→World→Prop} {Q:Exit→Act→World→Prop} (hd:∀c,o.op≠.defer c)
    (h:(execOp a.eval o).run P w= .ok .skip w') (hK:K (a.put o.dst undef) w'):o.wpIn (WF ro) n P a w K Q:=by
  refine ⟨fun _ _=>trivial,?_⟩
  rw [Oper.semAt_eq _ _ _ hd,h]
  exact hK
theorem stepV_val {o:Oper} {ev:Operand→VV} {h:Nat→Option Blk} {nb:Nat} {val:VV} (hd:∀c,o.op≠.defer c)
    (hs:∀(ρ:Nat→Ph) (w:World) (a:Act),WR w0 ng ρ h w→(∀x∈o.op.operands,(ev x).R ρ (a.eval x))→∃v,(execOp a.eval o).run P w= .ok (.value v) w∧val.R ρ v) :
    StepV P w0 ng o ev h nb nb val h (fun _=>False):=by
  intro n ro ρ w a K Q hw hops _ hK
  obtain ⟨v,h1,h2⟩:=hs ρ w a hw hops
  exact wpIn_val hd h1 (hK v ρ w h2 hw (Eff.refl _ _ _))
def setB (h:Nat→Option Blk) (b:Nat) (x:Option Blk) (n:Nat):Option Blk:=if n=b then x else h n
def setP (ρ:Nat→Ph) (b:Nat) (x:Ph) (n:Nat):Ph:=if n=b then x else ρ n
theorem ext_new {ρ:Nat→Ph} {b k s:Nat} (hb:ρ b= .fresh):Ext ρ (setP ρ b (.live k s)):=by
  intro c
  by_cases e:c=b
  · subst e;rw [hb];exact ⟨fun _ _ h=>(by cases h),fun h=>(by cases h)⟩
  · simp only [setP,e,if_false];exact ⟨fun _ _ h=>.inl h,id⟩
theorem wr_new {ρ:Nat→Ph} {h:Nat→Option Blk} {w w':World} (x:WR w0 ng ρ h w) {b s:Nat} (hb:ρ b= .fresh) (hng:ng≤b) {z:Blk} (hB:Below w.heap.size w w') (hk:w.heap.size < w'.heap.size)
    (hz:BlkR (setP ρ b (.live w.heap.size s)) w' w.heap.size s z):WR w0 ng (setP ρ b (.live w.heap.size s)) (setB h b (some z)) w'∧Eff ρ w (setP ρ b (.live w.heap.size s)) w' (fun c=>c=b):=by
  have he:=ext_new (k:=w.heap.size) (s:=s) hb
  have hlive:∀c k s',setP ρ b (.live w.heap.size s) c= .live k s'→(c=b∧k=w.heap.size)∨(c≠b∧ρ c= .live k s'):=by
    intro c k s' hc
    by_cases e:c=b
    · left;simp only [setP,e,if_true,Ph.live.injEq] at hc;exact ⟨e,hc.1.symm⟩
    · right;simp only [setP,e,if_false] at hc;exact ⟨e,hc⟩
  refine ⟨⟨fun c y hc=>?_,fun c k s' hc=>?_,fun c k s' hc=>?_,fun c c' k s1 s2 hc hc'=>?_,x.below.trans (hB.mono x.below.size),fun c hc=>?_⟩,he,fun c hc=>by simp [setP,hc],fun k hk _=>hB.block k hk,fun c k s' h1 h2=>?_,hB.size,hB.os,hB.tape,hB.output⟩
  · by_cases e:c=b
    · subst e
      simp only [setB,if_true,Option.some.injEq] at hc
      subst hc
      exact ⟨_,_,by simp [setP],hz⟩
    · simp only [setB,e,if_false] at hc
      obtain ⟨k,s',h1,h2⟩:=x.blk c y hc
      exact ⟨k,s',by simp [setP,e,h1],h2.keep he (hB.block k (x.lt c k s' h1))⟩
  · rcases hlive c k s' hc with ⟨rfl,rfl⟩|⟨_,h1⟩
    · exact .inr ⟨hng,x.below.size⟩
    · exact x.own c k s' h1
  · rcases hlive c k s' hc with ⟨rfl,rfl⟩|⟨_,h1⟩
    · exact hk
    · exact Nat.lt_of_lt_of_le (x.lt c k s' h1) hB.size
  · rcases hlive c k s1 hc with ⟨e,h1⟩|⟨_,h1⟩<;> rcases hlive c' k s2 hc' with ⟨e',h2⟩|⟨_,h2⟩
    · rw [e,e']
    · have:=x.lt c' k s2 h2;omega
    · have:=x.lt c k s1 h1;omega
    · exact x.inj c c' k s1 s2 h1 h2
  · obtain ⟨s',hs⟩:=x.glob c hc
    have:c≠b:=by omega
    exact ⟨s',by simp [setP,this,hs]⟩
  · rcases hlive c k s' h2 with ⟨_,rfl⟩|⟨_,h3⟩
    · exact .inl (Nat.le_refl _)
    · exact absurd h3 h1
theorem wr_set {ρ:Nat→Ph} {h:Nat→Option Blk} {w w':World} (x:WR w0 ng ρ h w) {b k s:Nat} (hb:ρ b= .live k s) (hng:ng≤b) {z:Blk} (hW:Wrote k w w') (hz:BlkR ρ w' k s z) :
    WR w0 ng ρ (setB h b (some z)) w'∧Eff ρ w ρ w' (fun c=>c=b):=by
  have hk0:w0.heap.size≤k:=by
    rcases x.own b k s hb with ⟨h1,_⟩|⟨_,h1⟩
    · omega
    · exact h1
  refine ⟨⟨fun c y hc=>?_,x.own,fun c k s hc=>Nat.lt_of_lt_of_le (x.lt c k s hc) hW.size,x.inj,⟨hW.os.trans x.below.os,hW.tape.trans x.below.tape,hW.output.trans x.below.output,Nat.le_trans x.below.size hW.size,fun j hj=>?_⟩,x.glob⟩,Ext.refl _,fun _ _=>rfl,fun j hj hm=>?_,fun _ _ _ h1 h2=>absurd h2 h1,hW.size,hW.os,hW.tape,hW.output⟩
  · by_cases e:c=b
    · subst e
      simp only [setB,if_true,Option.some.injEq] at hc
      subst hc
      exact ⟨k,s,hb,hz⟩
    · simp only [setB,e,if_false] at hc
      obtain ⟨j,s',h1,h2⟩:=x.blk c y hc
      exact ⟨j,s',h1,h2.keep (Ext.refl _) (hW.block j (x.lt c j s' h1) fun ej=>e (x.inj c b k s' s (ej ▸ h1) hb))⟩
  · have:=x.below.size
    exact (hW.block j (by omega) (by omega)).trans (x.below.block j hj)
  · exact hW.block j hj fun ej=>hm b s rfl (ej ▸ hb)
/-! ## Operations that leave the memory alone -/
theorem stepV_move {o:Oper} {x:Operand} (ho:o.op= .move x∨o.op= .assign x) (ev:Operand→VV) (h:Nat→Option Blk) (nb:Nat):StepV P w0 ng o ev h nb nb (ev x) h (fun _=>False):=by
  refine stepV_val (fun c hc=>by rcases ho with ho|ho <;> rw [ho] at hc <;> cases hc) fun ρ w a _ hops=>⟨a.eval x,?_,hops x ?_⟩
  · unfold execOp;rcases ho with ho|ho <;> rw [ho] <;> rfl
  · rcases ho with ho|ho <;> rw [ho] <;> simp [Op.operands]
theorem stepV_pick {o:Oper} {c x y:Operand} (ho:o.op= .pick c x y) {ev:Operand→VV} {b:Bool} (hc:ev c= .s (.bool b)) (h:Nat→Option Blk) (nb:Nat):StepV P w0 ng o ev h nb nb (if b then ev x else ev y) h (fun _=>False):=by
  refine stepV_val (fun c hc=>by rw [ho] at hc;cases hc) fun ρ w a _ hops=>⟨if b then a.eval x else a.eval y,?_,?_⟩
  · have h1:=hops c (by rw [ho];simp [Op.operands])
    rw [hc] at h1
    obtain ⟨h1,_⟩:=h1
    unfold execOp;rw [ho]
    simp [h1,asBool]
  · cases b
    · exact hops y (by rw [ho];simp [Op.operands])
    · exact hops x (by rw [ho];simp [Op.operands])
def VV.cells:VV→Option (List VV)
  | .agg xs=>some xs
  | .tup _=>none
  | .u=>none
  | x=>some [x]
theorem cells_R {ρ:Nat→Ph} {x:VV} {v:Value} {xs:List VV} (h:x.R ρ v) (hx:x.cells=some xs):Rs ρ xs v.cells.toList∧∀c∈v.cells.toList,c.oneCell'=true:=by
  have one:∀{y:VV} {u:Value},y.R ρ u→u.oneCell'=true→Rs ρ [y] u.cells.toList∧∀c∈u.cells.toList,c.oneCell'=true:=by
    intro y u hy hu
    have:u.cells=#[u]:=by cases u <;> first|rfl|simp [Value.oneCell'] at hu
    rw [this]
    exact ⟨⟨u,[],rfl,hy,rfl⟩,by simpa using hu⟩
  cases x with
  | agg ys=>cases hx;obtain ⟨cs,rfl,h1,h2⟩:=h;exact ⟨h1,h2⟩
  | tup _=>cases hx
  | u=>cases hx
  | s y=>cases hx;exact one h (h.1 ▸ h.2)
  | p b o=>cases hx;exact one h h.1
  | sl b o e n c=>cases hx;exact one h h.1
  | z0 b o=>cases hx;exact one h h.1
  | fn f us vs =>
    cases hx
    have h':=h
    obtain ⟨_,_,rfl,_⟩:=h'
    exact one h rfl
  | yl b=>cases hx;exact one h h.1
  | u1=>cases hx;exact one h h
def VV.mk:Bool→List VV→Option VV
  | true,xs=>some (.agg xs)
  | false,[x]=>some x
  | false,_=>none
theorem blk_range {ρ:Nat→Ph} {w:World} {k s:Nat} {cs:List VV} (h:BlkR ρ w k s (.cells cs)) {o n:Nat} (hle:o+n≤cs.length):∃es:List Value,es.length=n∧w.rangeAt k o es∧Rs ρ ((cs.drop o).take n) es∧∀c∈es,c.oneCell'=true:=by
  obtain ⟨c,T,h1,h2,h2',h3⟩:=h
  induction n generalizing o with
  | zero=>exact ⟨[],rfl,fun j v hv=>by simp at hv,by simp [Rs],by simp⟩
  | succ n ih =>
    obtain ⟨es,e1,e2,e3,e4⟩:=ih (o:=o+1) (by omega)
    obtain ⟨v,g1,g2,g3⟩:=h3 o cs[o] (List.getElem?_eq_getElem (by omega))
    refine ⟨v :: es,by simp [e1],fun j u hu=>?_,?_,?_⟩
    · cases j with
      | zero =>
        simp only [List.getElem?_cons_zero,Option.some.injEq] at hu
        subst hu
        rw [cell_of_row w k _ c T (0,0) h1];simpa using g1
      | succ j =>
        simp only [List.getElem?_cons_succ] at hu
        have:=e2 j u hu
        rwa [show o+1+j=o+(j+1) by omega] at this
    · rw [List.drop_eq_getElem_cons (by omega),List.take_succ_cons]
      exact ⟨v,es,rfl,g2,e3⟩
    · intro u hu
      rcases List.mem_cons.1 hu with rfl|hu
      · exact g3
      · exact e4 u hu
theorem mk_R {ρ:Nat→Ph} {ag:Bool} {xs:List VV} {y:VV} {es:List Value} (hy:VV.mk ag xs=some y) (h:Rs ρ xs es) (h1:∀c∈es,c.oneCell'=true):y.R ρ (if ag then .agg es.toArray else es.getD 0 undef):=by
  cases ag with
  | true=>cases hy;exact ⟨es,rfl,h,h1⟩
  | false =>
    match xs,hy with
    | [x], hy =>
      cases hy
      obtain ⟨v,r,rfl,h2,_⟩:=h
      exact h2
theorem run_loadV {w:World} {T:TypeId} {ti:TyI} (ht:tyI P T=some ti) {b o:Nat} {es:List Value} (hr:w.rangeAt b o es) (hl:es.length=ti.size) {ρ:Nat→Ph} {xs:List VV} (hxs:Rs ρ xs es) (h1c:∀c∈es,c.oneCell'=true) {y:VV} (hy:VV.mk ti.agg xs=some y) :
    ∃v,(Instr.loadAt T (.pointer (some ⟨b,o,none⟩))).run P w= .ok v w∧y.R ρ v:=by
  obtain ⟨i,d,h1,h2,h3,_,h4,_⟩:=tyI_spec ht
  have hR:=mk_R hy hxs h1c
  cases ha:ti.agg with
  | true =>
    rw [ha] at hR
    exact ⟨.agg es.toArray,run_loadAt_mid w b o T es d hr h2 (h4.trans ha) (by simp [h1,h3,hl]),hR⟩
  | false =>
    have hag:(isAgg T).run P w= .ok false w:=by rw [run_isAgg h2,h4,ha]
    rw [ha] at hR hy
    match xs,hxs,hy with
    | [x], hxs, hy =>
      obtain ⟨v,r,rfl,h5,h6⟩:=hxs
      have hv:=hr 0 v rfl
      refine ⟨v,?_,hR⟩
      rw [Nat.add_zero] at hv
      simp [Instr.loadAt,Instr.sureAddr,loadVar,hag,load,Sem.run,hv]
def loadC (h:Nat→Option Blk) (b o n:Nat):Option (List VV):=match h b with
  | some (.cells cs) => match Nat.ble (o + n) cs.length with
    | true=>some ((cs.drop o).take n)
    | false=>none
  | _=>none
theorem loadC_range {ρ:Nat→Ph} {h:Nat→Option Blk} {w:World} (hw:WR w0 ng ρ h w) {b o n:Nat} {xs:List VV} (hx:loadC h b o n=some xs):∃k s es,ρ b= .live k s∧es.length=n∧w.rangeAt k o es∧Rs ρ xs es∧∀c∈es,c.oneCell'=true:=by
  unfold loadC at hx
  split at hx
  · rename_i cs hb
    split at hx
    · rename_i hle
      cases hx
      obtain ⟨k,s,h1,h2⟩:=hw.blk b _ hb
      obtain ⟨es,h3⟩:=blk_range h2 (Nat.le_of_ble_eq_true hle)
      exact ⟨k,s,es,h1,h3⟩
    · cases hx
  · cases hx
theorem stepV_load {o:Oper} {T:TypeId} {x:Operand} (ho:o.op= .load T x) {ev:Operand→VV} {h:Nat→Option Blk} {b off:Nat} (hx:ev x= .p b off) {ti:TyI} (ht:tyI P T=some ti) {xs:List VV} (hl:loadC h b off ti.size=some xs) {y:VV} (hy:VV.mk ti.agg xs=some y) (nb:Nat) :
    StepV P w0 ng o ev h nb nb y h (fun _=>False):=by
  refine stepV_val (fun c hc=>by rw [ho] at hc;cases hc) fun ρ w a hw hops=>?_
  obtain ⟨k,s,es,h1,h2,h3,h4,h5⟩:=loadC_range hw hl
  have hp:=hops x (by rw [ho];simp [Op.operands])
  rw [hx] at hp
  obtain ⟨_,hp⟩:=hp
  rw [h1] at hp
  dsimp only at hp
  obtain ⟨v,h6,h7⟩:=run_loadV ht h3 h2 h4 h5 hy
  refine ⟨v,?_,h7⟩
  unfold execOp;rw [ho];dsimp only;rw [hp]
  simp [h6]
def putL (cs:List VV) (o:Nat) (new:List VV):List VV:=cs.take o++(new++cs.drop (o+new.length))
theorem blk_put {ρ:Nat→Ph} {w:World} {k s:Nat} {cs:List VV} (h:BlkR ρ w k s (.cells cs)) {o:Nat} {new:List VV} {es:List Value} (hle:o+new.length≤cs.length) (hn:Rs ρ new es) (h1:∀c∈es,c.oneCell'=true) :
    BlkR ρ (w.setCells k o es) k s (.cells (putL cs o new)):=by
  obtain ⟨c,T,h2,h3,h3',h4⟩:=h
  have hlen:=hn.len
  refine ⟨setRange c o es,T,heap_setCells_same es h2 o,by rw [setRange_size];exact h3,?_,fun j x hj=>?_⟩
  · simp only [putL,List.length_append,List.length_take,List.length_drop];omega
  · rw [setRange_get]
    unfold putL at hj
    by_cases hj1:j < o
    · rw [List.getElem?_append_left (by simp;omega),List.getElem?_take,if_pos hj1] at hj
      rw [if_neg (by omega)]
      exact h4 j x hj
    · rw [List.getElem?_append_right (by simp;omega)] at hj
      rw [show (cs.take o).length=o by simp;omega] at hj
      by_cases hj2:j - o < new.length
      · rw [List.getElem?_append_left hj2] at hj
        obtain ⟨v,g1,g2⟩:=hn.get hj
        rw [if_pos (by omega)]
        exact ⟨v,g1,g2,h1 v (List.mem_of_getElem? g1)⟩
      · rw [List.getElem?_append_right (by omega),List.getElem?_drop] at hj
        rw [if_neg (by omega)]
        refine h4 j x ?_
        rw [←hj];congr 1;omega
theorem stepV_store {o:Oper} {T:TypeId} {x y:Operand} (ho:o.op= .store T x y) {ev:Operand→VV} {h:Nat→Option Blk} {b off:Nat} (hx:ev x= .p b off) {cs:List VV} (hb:h b=some (.cells cs)) (hng:ng≤b)
    {ti:TyI} (ht:tyI P T=some ti) {new:List VV} (hy:(ev y).cells=some new) (hnew:new.length=ti.size) (hle:off+ti.size≤cs.length) (nb:Nat) :
    StepV P w0 ng o ev h nb nb .u (setB h b (some (.cells (putL cs off new)))) (fun c=>c=b):=by
  intro n ro ρ w a K Q hw hops _ hK
  have hp:=hops x (by rw [ho];simp [Op.operands])
  obtain ⟨hv,hv1⟩:=cells_R (hops y (by rw [ho];simp [Op.operands])) hy
  obtain ⟨k,s,h1,h2⟩:=hw.blk b _ hb
  rw [hx] at hp
  obtain ⟨_,hp⟩:=hp
  rw [h1] at hp
  dsimp only at hp
  have hl:=hv.len
  have h2':=h2
  obtain ⟨c,Tb,h5,h6,h6',h7⟩:=h2'
  have hth:w.there k off ((a.eval y).cells.toList).length:=by
    intro j hj
    have hin:off+j < c.size:=by omega
    refine ⟨?_,?_⟩
    · rw [cell_of_row w k _ c Tb (0,0) h5];simp [hin]
    · simp [World.frozen?,h5]
  have hrun:=run_storeAt_cells (P:=P) ht (v:=a.eval y) rfl (by omega) hth hv1
  have hW:=wrote_setCells ((a.eval y).cells.toList) w k off
  obtain ⟨q1,q2⟩:=wr_set hw h1 hng hW (blk_put h2 (by omega) hv hv1)
  refine wpIn_skp (w':=w.setCells k off (a.eval y).cells.toList) (fun c hc=>by rw [ho] at hc;cases hc) ?_ (hK undef ρ _ trivial q1 q2)
  unfold execOp;rw [ho];dsimp only;rw [hp]
  simp only [Sem.run_bind,hrun,Result.andThen_ok,Sem.run_pure]
theorem stepV_new {o:Oper} {ev:Operand→VV} {h:Nat→Option Blk} {b:Nat} {xs:List VV} {T:TypeId} (hd:∀c,o.op≠.defer c) (hng:ng≤b)
    (hs:∀(ρ:Nat→Ph) (w:World) (a:Act),WR w0 ng ρ h w→(∀y∈o.op.operands,(ev y).R ρ (a.eval y))→
      ∃cs:List Value,(execOp a.eval o).run P w= .ok (.value (.pointer (some ⟨w.heap.size,0,none⟩))) (w.alloc (.cells cs.toArray T))∧Rs ρ xs cs∧∀c∈cs,c.oneCell'=true) :
    StepV P w0 ng o ev h b (b+1) (.p b 0) (setB h b (some (.cells xs))) (fun c=>c=b):=by
  intro n ro ρ w a K Q hw hops hf hK
  obtain ⟨cs,h1,h2,h3⟩:=hs ρ w a hw hops
  have hb:=hf b (Nat.le_refl _) (Nat.lt_succ_self _)
  obtain ⟨q1,q2⟩:=wr_new hw hb hng (below_alloc w (.cells cs.toArray T)) (heap_alloc_lt _ _) (z:=.cells xs) (s:=cs.length) ⟨cs.toArray,T,heap_alloc_last _ _,by simp,by simp [h2.len],fun j x hj=>by
    obtain ⟨v,g1,g2⟩:=h2.get hj
    exact ⟨v,by simpa using g1,g2.ext (ext_new hb),h3 v (List.mem_of_getElem? g1)⟩⟩
  exact wpIn_val hd h1 (hK _ _ _ ⟨rfl,by simp [setP]⟩ q1 q2)
theorem stepV_box {o:Oper} {T:TypeId} {x:Operand} (ho:o.op= .box T x) {ev:Operand→VV} (h:Nat→Option Blk) {b:Nat} (hng:ng≤b) {xs:List VV} (hx:(ev x).cells=some xs) :
    StepV P w0 ng o ev h b (b+1) (.p b 0) (setB h b (some (.cells xs))) (fun c=>c=b):=by
  refine stepV_new (T:=T) (fun c hc=>by rw [ho] at hc;cases hc) hng fun ρ w a _ hops=>⟨(a.eval x).cells.toList,?_,cells_R (hops x (by rw [ho];simp [Op.operands])) hx⟩
  unfold execOp;rw [ho]
  simp [Instr.box,run_newVar']
theorem Rs_s {ρ:Nat→Ph}:∀(zs:List Value),zs.all (·.oneCell')=true→Rs ρ (zs.map VV.s) zs∧∀c∈zs,c.oneCell'=true
  | [],_=>⟨rfl,by simp⟩
  | z :: zs, h => by
    simp only [List.all_cons,Bool.and_eq_true] at h
    obtain ⟨h1,h2⟩:=Rs_s zs h.2
    exact ⟨⟨z,zs,rfl,⟨rfl,h.1⟩,h1⟩,by simpa using ⟨h.1,h2⟩⟩
theorem stepV_alloc {o:Oper} {T:TypeId} (ho:o.op= .alloc T) {ti:TyI} (ht:tyI P T=some ti) {zs:List Value} (hz:ti.zero=some zs) (h1:zs.all (·.oneCell')=true) (ev:Operand→VV) (h:Nat→Option Blk) {b:Nat} (hng:ng≤b) :
    StepV P w0 ng o ev h b (b+1) (.p b 0) (setB h b (some (.cells (zs.map VV.s)))) (fun c=>c=b):=by
  obtain ⟨i,d,hi,_,_,_,_,h2⟩:=tyI_spec ht
  rw [hz] at h2
  cases hzero:i.zero with
  | none=>rw [hzero] at h2;cases h2
  | some z =>
    rw [hzero] at h2;simp only [Option.map_some,Option.some.injEq] at h2
    refine stepV_new (T:=T) (fun c hc=>by rw [ho] at hc;cases hc) hng fun ρ w a _ hops=>⟨zs,?_,Rs_s zs h1⟩
    unfold execOp;rw [ho]
    simp [Instr.alloc,zeroValue,typeInfo,hi,hzero,run_newVar',h2]
end
end Go.Vx
end
section
namespace Go.Vx
open Go.Ax
open Go.RowKit (Below)
section
variable {P:Program} {w0:World} {ng:Nat}
theorem stepV_fieldAddr {o:Oper} {T:TypeId} {x:Operand} {f:Nat} (ho:o.op= .fieldAddr T x f) {ev:Operand→VV} {h:Nat→Option Blk} {b off:Nat} (hx:ev x= .p b off) {z:Blk} (hb:h b=some z)
    {ti:TyI} (ht:tyI P T=some ti) {offs:List (Nat×Nat×Bool)} (hk:ti.kind= .struct offs) {d c:Nat} {r:Bool} (hf:offs[f]?=some (d,c,r)) (hc:0 < c) (nb:Nat) :
    StepV P w0 ng o ev h nb nb (.p b (off+d)) h (fun _=>False):=by
  refine stepV_val (fun c hc=>by rw [ho] at hc;cases hc) fun ρ w a hw hops=>?_
  have hp:=hops x (by rw [ho];simp [Op.operands])
  obtain ⟨k,s,h1,_⟩:=hw.blk b _ hb
  rw [hx] at hp
  obtain ⟨_,hp⟩:=hp
  rw [h1] at hp
  dsimp only at hp
  obtain ⟨fs,fd,h4,h5,h6,h7,_⟩:=tyI_struct ht hk hf
  refine ⟨.pointer (some ⟨k,off+d,none⟩),?_,rfl,by rw [h1]⟩
  unfold execOp;rw [ho];dsimp only;rw [hp]
  simp only [Instr.fieldAt,Instr.sureAddr,Sem.run_bind,run_underlying h4,Result.andThen_ok,h5,Sem.run_pure,fieldPlace_run (P:=P) (by rw [h7];exact hc),h6]
theorem run_partV {w:World} {t:TypeId} {cs:List Value} {off:Nat} {r:Bool} (hr:((P.underlying t).map (·.isRow)).getD false=r) (hc:0 < P.cellsOf t) (hu:P.underlying t≠none) {ρ:Nat→Ph} {xs:List VV}
    (hls:Rs ρ xs ((cs.drop off).take (P.cellsOf t))) (h1c:∀c∈cs,c.oneCell'=true) (hle:off+P.cellsOf t≤cs.length) {y:VV} (hy:VV.mk r xs=some y) (hsz:r=false→P.cellsOf t=1):∃v,(part t cs.toArray off).run P w= .ok v w∧y.R ρ v:=by
  cases hd:P.underlying t with
  | none=>exact absurd hd hu
  | some d =>
    rw [hd] at hr
    simp only [Option.map_some,Option.getD_some] at hr
    have hag:=run_isAgg hd w
    have hR:=mk_R hy hls (fun c hc=>h1c c (List.mem_of_mem_drop (List.mem_of_mem_take hc)))
    unfold part
    cases hr':r with
    | true =>
      rw [hr'] at hR hr
      have:∃i,P.info? t=some i∧i.size=P.cellsOf t:=by
        unfold Program.cellsOf at hc ⊢
        cases hi:P.info? t with
        | none=>simp [hi] at hc
        | some i=>exact ⟨i,rfl,by simp⟩
      obtain ⟨i,hi,hs⟩:=this
      refine ⟨.agg ((cs.drop off).take (P.cellsOf t)).toArray,?_,hR⟩
      simp [hag,hr,sizeOf,typeInfo,hi,hs]
    | false =>
      rw [hr'] at hR hr
      have hl:off < cs.length:=by omega
      have e:((cs.drop off).take (P.cellsOf t)).getD 0 undef=cs[off]:=by
        rw [hsz hr',List.drop_eq_getElem_cons hl];rfl
      simp only [Bool.false_eq_true,if_false,e] at hR
      refine ⟨cs[off],?_,hR⟩
      simp [hag,hr,hl]
theorem stepV_field {o:Oper} {T:TypeId} {x:Operand} {f:Nat} (ho:o.op= .field T x f) {ev:Operand→VV} {h:Nat→Option Blk} {xs:List VV} (hx:ev x= .agg xs)
    {ti:TyI} (ht:tyI P T=some ti) {offs:List (Nat×Nat×Bool)} (hk:ti.kind= .struct offs) {d c:Nat} {r:Bool} (hf:offs[f]?=some (d,c,r)) (hc:0 < c) (hle:d+c≤xs.length)
    {y:VV} (hy:VV.mk r ((xs.drop d).take c)=some y) (hsz:r=false→c=1) (nb:Nat) (hu:∀fs fd,P.underlying T=some (.struct fs)→fs[f]?=some fd→P.underlying fd.type≠none):StepV P w0 ng o ev h nb nb y h (fun _=>False):=by
  refine stepV_val (fun c hc=>by rw [ho] at hc;cases hc) fun ρ w a hw hops=>?_
  have h1:=hops x (by rw [ho];simp [Op.operands])
  rw [hx] at h1
  obtain ⟨cs,h2,h3,h3c⟩:=h1
  obtain ⟨fs,fd,h4,h5,h6,h7,h8⟩:=tyI_struct ht hk hf
  subst h7
  have hl:=h3.len
  obtain ⟨v,h13,h14⟩:=run_partV (P:=P) (w:=w) (t:=fd.type) (off:=d) h8 hc (hu fs fd h4 h5) ((h3.drop d).take _) h3c (by omega) hy hsz
  refine ⟨v,?_,h14⟩
  unfold execOp;rw [ho];dsimp only;rw [h2]
  simp only [Instr.field,Sem.run_bind,run_underlying h4,Result.andThen_ok,h5,asAgg,Sem.run_pure,h6,h13]
theorem evInt {ρ:Nat→Ph} {k:IntKind} {i:Int} {x:VV} {v:Value} (hx:x= .s (.int k i)) (h:x.R ρ v):v= .int k i:=by
  subst hx;exact h.1
theorem stepV_idxSlice {o:Oper} {T:TypeId} {x y:Operand} (ho:o.op= .indexAddr T x y) {ev:Operand→VV} {kd:IntKind} {i:Int} (hy:ev y= .s (.int kd i)) {h:Nat→Option Blk} {b off es n c:Nat} (hx:ev x= .sl b off es n c) {z:Blk} (hb:h b=some z)
    {ti:TyI} (ht:tyI P T=some ti) {e sz:Nat} (hk:ti.kind= .slice e sz) (hsz:0 < sz) (h0:0≤i) (h1:i < n) (nb:Nat):StepV P w0 ng o ev h nb nb (.p b (off+i.toNat*sz)) h (fun _=>False):=by
  refine stepV_val (fun c hc=>by rw [ho] at hc;cases hc) fun ρ w a hw hops=>?_
  have hp:=hops x (by rw [ho];simp [Op.operands])
  have hi:=evInt hy (hops y (by rw [ho];simp [Op.operands]))
  obtain ⟨k,s,g1,_⟩:=hw.blk b _ hb
  rw [hx] at hp
  obtain ⟨_,hp⟩:=hp
  rw [g1] at hp
  obtain ⟨C,_,_,_,hp⟩:=hp
  refine ⟨.pointer (some ⟨k,off+i.toNat*sz,none⟩),?_,rfl,by rw [g1]⟩
  unfold execOp;rw [ho];dsimp only
  rw [hp,hi]
  simp only [Sem.run_bind,run_indexSlice ht hk hsz h0 h1,Result.andThen_ok,Sem.run_pure]
theorem stepV_idxArr {o:Oper} {T:TypeId} {x y:Operand} (ho:o.op= .indexAddr T x y) {ev:Operand→VV} {kd:IntKind} {i:Int} (hy:ev y= .s (.int kd i)) {h:Nat→Option Blk} {b off:Nat} (hx:ev x= .p b off) {z:Blk} (hb:h b=some z)
    {ti:TyI} (ht:tyI P T=some ti) {m e sz:Nat} (hk:ti.kind= .array m e sz) (hsz:0 < sz) (h0:0≤i) (h1:i < m) (nb:Nat):StepV P w0 ng o ev h nb nb (.p b (off+i.toNat*sz)) h (fun _=>False):=by
  refine stepV_val (fun c hc=>by rw [ho] at hc;cases hc) fun ρ w a hw hops=>?_
  have hp:=hops x (by rw [ho];simp [Op.operands])
  have hi:=evInt hy (hops y (by rw [ho];simp [Op.operands]))
  obtain ⟨k,s,g1,_⟩:=hw.blk b _ hb
  rw [hx] at hp
  obtain ⟨_,hp⟩:=hp
  rw [g1] at hp
  dsimp only at hp
  refine ⟨.pointer (some ⟨k,off+i.toNat*sz,none⟩),?_,rfl,by rw [g1]⟩
  unfold execOp;rw [ho];dsimp only
  rw [hp,hi]
  simp only [Sem.run_bind,run_indexArray ht hk hsz h0 h1,Result.andThen_ok,Sem.run_pure]
theorem stepV_extract {o:Oper} {x:Operand} {i:Nat} (ho:o.op= .extract x i) {ev:Operand→VV} {xs:List VV} (hx:ev x= .tup xs) (h:Nat→Option Blk) {y:VV} (hy:xs[i]?=some y) (nb:Nat):StepV P w0 ng o ev h nb nb y h (fun _=>False):=by
  refine stepV_val (fun c hc=>by rw [ho] at hc;cases hc) fun ρ w a hw hops=>?_
  have h1:=hops x (by rw [ho];simp [Op.operands])
  rw [hx] at h1
  obtain ⟨vs,h2,h3⟩:=h1
  obtain ⟨v,h4,h5⟩:=h3.get hy
  refine ⟨v,?_,h5⟩
  unfold execOp;rw [ho];dsimp only;rw [h2]
  simp [Instr.extract,h4]
theorem stepV_binV {o:Oper} {op:BinOp} {T T':TypeId} {x y:Operand} (ho:o.op= .binOp op T x y T') {ev:Operand→VV} {a b:Value} (hx:ev x= .s a) (hy:ev y= .s b) (h:Nat→Option Blk)
    {ti:TyI} (ht:tyI P T=some ti) {pre:Prop} {v:Value} (hb:binV ti.kind op a b=some (pre,v)) (hp:pre) (hv:v.oneCell'=true) (nb:Nat):StepV P w0 ng o ev h nb nb (.s v) h (fun _=>False):=by
  refine stepV_val (fun c hc=>by rw [ho] at hc;cases hc) fun ρ w ac hw hops=>⟨v,?_,rfl,hv⟩
  have h1:=hops x (by rw [ho];simp [Op.operands])
  have h2:=hops y (by rw [ho];simp [Op.operands])
  rw [hx] at h1;rw [hy] at h2
  obtain ⟨h1,h1'⟩:=h1
  obtain ⟨h2,_⟩:=h2
  have hni:a≠.nilIface:=by
    intro e;subst e
    unfold binV at hb
    simp at hb
  unfold execOp;rw [ho];dsimp only
  rw [h1,h2]
  simp only [Sem.run_bind,run_eqGuard h1' hni,Result.andThen_ok,run_binV ht hb hp,Sem.run_pure]
theorem stepV_unV {o:Oper} {op:UnOp} {T:TypeId} {x:Operand} (ho:o.op= .unOp op T x) {ev:Operand→VV} {a:Value} (hx:ev x= .s a) (h:Nat→Option Blk) {v:Value} (hu:unV op a=some v) (nb:Nat):StepV P w0 ng o ev h nb nb (.s v) h (fun _=>False):=by
  have hv:v.oneCell'=true:=by unfold unV at hu;split at hu <;> cases hu <;> rfl
  refine stepV_val (fun c hc=>by rw [ho] at hc;cases hc) fun ρ w ac hw hops=>⟨v,?_,rfl,hv⟩
  have h1:=hops x (by rw [ho];simp [Op.operands])
  rw [hx] at h1
  obtain ⟨h1,_⟩:=h1
  unfold execOp;rw [ho];dsimp only
  rw [h1]
  unfold unV at hu
  split at hu <;> cases hu <;> simp [Op.unary,Op.intArith]
theorem stepV_convV {o:Oper} {S T:TypeId} {x:Operand} (ho:o.op= .convert S T x) {ev:Operand→VV} {a:Value} (hx:ev x= .s a) (h:Nat→Option Blk) {si ti:TyI} (hs:tyI P S=some si) (ht:tyI P T=some ti)
    {v:Value} (hc:convV si.kind ti.kind a=some v) (nb:Nat):StepV P w0 ng o ev h nb nb (.s v) h (fun _=>False):=by
  have hv:v.oneCell'=true:=by unfold convV at hc;split at hc <;> cases hc <;> rfl
  refine stepV_val (fun c hc=>by rw [ho] at hc;cases hc) fun ρ w ac hw hops=>⟨v,?_,rfl,hv⟩
  have h1:=hops x (by rw [ho];simp [Op.operands])
  rw [hx] at h1
  obtain ⟨h1,_⟩:=h1
  unfold execOp;rw [ho];dsimp only
  rw [h1]
  unfold convV at hc
  split at hc
  · rename_i k0 k k1 n e1 e2 _
    cases hc
    simp [convert,run_underlying (tyI_int hs e1),run_underlying (tyI_int ht e2),Conv.intToInt]
  · rename_i s e1 e2 _
    cases hc
    simp [convert,run_underlying (tyI_string hs e1),run_underlying (tyI_string ht e2)]
  · cases hc
theorem stepV_makeFunc {o:Oper} {fn:Fn} {first captured:Array Operand} (ho:o.op= .makeFunc fn first captured) (ev:Operand→VV) (h:Nat→Option Blk) (nb:Nat):StepV P w0 ng o ev h nb nb (.fn fn (first.toList.map ev) (captured.toList.map ev)) h (fun _=>False):=by
  refine stepV_val (fun c hc=>by rw [ho] at hc;cases hc) fun ρ w a hw hops=>⟨.func fn (first.map a.eval) (captured.map a.eval),?_,first.toList.map a.eval,captured.toList.map a.eval,?_,Rs.map _ fun y hy=>hops y ?_,Rs.map _ fun y hy=>hops y ?_⟩
  · unfold execOp;rw [ho];dsimp only
    simp only [Instr.makeFunc,Sem.run_bind,Sem.run_pure,Result.andThen_ok]
  · simp only [Value.func.injEq,true_and]
    exact ⟨by rw [←Array.toList_map],by rw [←Array.toList_map]⟩
  · rw [ho];show y∈first++captured;exact Array.mem_append.2 (.inl (by simpa using hy))
  · rw [ho];show y∈first++captured;exact Array.mem_append.2 (.inr (by simpa using hy))
theorem stepV_indexStr {o:Oper} {T:TypeId} {x y:Operand} (ho:o.op= .index T x y) {ev:Operand→VV} {kd:IntKind} {i:Int} {s:ByteArray} (hy:ev y= .s (.int kd i)) (hx:ev x= .s (.string s)) (h:Nat→Option Blk) {ti:TyI} (ht:tyI P T=some ti) (hk:ti.kind= .string) (hp:0≤i∧i < s.size) (nb:Nat) :
    StepV P w0 ng o ev h nb nb (.s (.int .u8 (s.data.getD i.toNat 0).toNat)) h (fun _=>False):=by
  have hlt:i.toNat < s.size:=by omega
  refine stepV_val (fun c hc=>by rw [ho] at hc;cases hc) fun ρ w a hw hops=>⟨.int .u8 (s.data.getD i.toNat 0).toNat,?_,rfl,rfl⟩
  have h1:=hops x (by rw [ho];simp [Op.operands])
  have h2:=evInt hy (hops y (by rw [ho];simp [Op.operands]))
  rw [hx] at h1
  obtain ⟨h1,_⟩:=h1
  unfold execOp;rw [ho];dsimp only
  rw [h1,h2]
  have hlt':i.toNat < s.data.size:=hlt
  have hg:s[i.toNat]?=some (s.data.getD i.toNat 0):=by
    rw [getElem?_pos s i.toNat hlt]
    simp only [Array.getD_eq_getD_getElem?,Array.getElem?_eq_getElem hlt',Option.getD_some]
    rfl
  simp [Instr.index,asIntOf,run_underlying (tyI_string ht hk),hp.1,hg]
theorem stepV_indexAgg {o:Oper} {T:TypeId} {x y:Operand} (ho:o.op= .index T x y) {ev:Operand→VV} {kd:IntKind} {i:Int} {xs:List VV} (hy:ev y= .s (.int kd i)) (hx:ev x= .agg xs) (h:Nat→Option Blk) {ti te:TyI} (ht:tyI P T=some ti) {m e sz:Nat} (hk:ti.kind= .array m e sz)
    (hte:tyI P e=some te) (hsz:0 < sz) (hle:i.toNat*sz+sz≤xs.length) {v:VV} (hv:VV.mk te.agg ((xs.drop (i.toNat*sz)).take sz)=some v) (hp:0≤i∧i < m) (h1:te.agg=false→sz=1) (nb:Nat):StepV P w0 ng o ev h nb nb v h (fun _=>False):=by
  refine stepV_val (fun c hc=>by rw [ho] at hc;cases hc) fun ρ w ac hw hops=>?_
  have g1:=hops x (by rw [ho];simp [Op.operands])
  have g2:=evInt hy (hops y (by rw [ho];simp [Op.operands]))
  rw [hx] at g1
  obtain ⟨cs,e1,l1,l2⟩:=g1
  obtain ⟨hu,hc⟩:=tyI_array ht hk
  obtain ⟨ie,de,hie,hde,_,_,hda,_⟩:=tyI_spec hte
  have hl:=l1.len
  obtain ⟨u,hr,hRV⟩:=run_partV (P:=P) (w:=w) (t:=e) (cs:=cs) (off:=i.toNat*sz) (r:=te.agg) (by rw [hde];simpa using hda) (by omega) (by rw [hde];simp) (by rw [hc];exact (l1.drop _).take _) l2 (by rw [hc];omega) hv (fun h=>by rw [hc];exact h1 h)
  refine ⟨u,?_,hRV⟩
  have hso:=sizeOf_run (P:=P) hc hsz w
  unfold execOp;rw [ho];dsimp only
  rw [e1,g2]
  simp only [Instr.index,asIntOf,Sem.run_bind,Sem.run_pure,Result.andThen_ok,run_underlying hu,hp.1,hp.2,and_self,if_true,hso,hr]
end
end Go.Vx
end
