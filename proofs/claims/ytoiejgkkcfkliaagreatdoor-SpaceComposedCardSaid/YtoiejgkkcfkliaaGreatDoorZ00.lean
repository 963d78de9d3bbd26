/- Lemmas on the program and its library: part Z00. -/
import Derived.Deep.MidRow
import Derived.Orders
import Derived.Below
set_option linter.unusedVariables false
set_option linter.unusedSimpArgs false
section
namespace Go.Ax
open Go.RowKit (Below)
def val (B:Nat):List Nat→Nat
  | []=>0
  | d :: ds=>d+B*val B ds
inductive i7 where
  | v (x:Value)
  | u
  | ptr (b sz i o:Nat)
  | own (b sz i n c:Nat)
  | gr (b sz n c:Nat)
  | pp (x:List i7)
  | int (z:Int)
  | frac (q:Rat)
  | rint (z:Int)
  | ints (k:IntKind) (l:List Int)
  | nn (k:IntKind) (l:List Int)
  | row (sz n:Nat) (g:Nat→List i7)
  | fn (f:Fn) (first captured:List i7)
inductive AV where
  | one (x:i7)
  | agg (xs:List i7)
  | tup (xs:List AV)
  | u
def i7.size:i7→Nat
  | .int _=>2
  | .rint _=>2
  | .frac _=>4
  | _=>1
def s8:List i7→Nat
  | []=>0
  | l :: ls=>l.size+s8 ls
structure u6 where
  ρ:Nat→Option Nat
  M:Nat→Prop
def u6.ok (E:u6) (w:World) (k:Nat):Prop:=k < w.heap.size∧¬E.M k∧∀b,E.ρ b≠some k
def u6.shut (E:u6):u6:={ ρ:=fun _=>none,M:=fun k=>E.M k∨∃b,E.ρ b=some k }
theorem a1z {E:u6} {w:World} {k:Nat}:E.shut.ok w k↔E.ok w k:=by
  simp only [u6.ok,u6.shut,not_or,not_exists,ne_eq,reduceCtorEq,not_false_eq_true,implies_true,and_true]
def a6t (E:u6) (w:World) (k:IntKind) (l:List Int) (x:Value):Prop:=
  (l= []∧x= .slice none 0 0)∨
  ∃b o c,x= .slice (some ⟨b,o,none⟩) l.length c∧E.ok w b∧l.length≤c∧w.rangeAt b o (l.map (Value.int k))
def NnR (E:u6) (w:World) (k:IntKind) (l:List Int) (x:Value):Prop:=
  ∃b o c,x= .slice (some ⟨b,o,none⟩) l.length c∧E.ok w b∧l.length≤c∧w.rangeAt b o (l.map (Value.int k))
def a6g (E:u6) (w:World) (z:Int) (cs:List Value):Prop:=
  (cs= [.int .i64 z,.slice none 0 0]∧-9223372036854775808≤z∧z < 9223372036854775808)∨
  ∃(ds:List Nat) (b o c:Nat),cs= [.int .i64 (if z < 0 then -1 else 1),.slice (some ⟨b,o,none⟩) ds.length c]∧E.ok w b∧ds.length≤c∧
    w.rangeAt b o (ds.map fun d:Nat=>Value.int .u64 (d:Int))∧(∀d∈ds,d < 2 ^ 64)∧ds≠[]∧ds.getLast?≠some 0∧val (2 ^ 64) ds=z.natAbs∧2 ^ 63≤z.natAbs
def RintR (E:u6) (w:World) (z:Int) (cs:List Value):Prop:=
  ∃(ds:List Nat) (x:Value),cs= [.bool (decide (z < 0)),x]∧a6t E w .i64 (ds.map Int.ofNat) x∧(∀d∈ds,d < 1000000000)∧ds.getLast?≠some 0∧val 1000000000 ds=z.natAbs
mutual
def i7.R (E:u6) (w:World):i7→List Value→Prop
  | .v x,cs=>cs= [x]∧x.oneCell'=true
  | .u,cs=>∃x,cs= [x]∧x.oneCell'=true
  | .ptr b sz i o,cs=>∃k,E.ρ b=some k∧cs= [.pointer (some ⟨k,i*sz+o,none⟩)]
  | .own b sz i n c,cs=>∃k,E.ρ b=some k∧cs= [.slice (some ⟨k,i*sz,none⟩) n c]
  | .gr b _ n c,cs=>(n=0∧c=0∧cs= [.slice none 0 0])∨∃k,E.ρ b=some k∧cs= [.slice (some ⟨k,0,none⟩) n c]
  | .pp x,cs=>∃b o es,cs= [.pointer (some ⟨b,o,none⟩)]∧E.ok w b∧j7 E.shut w x es∧w.rangeAt b o es
  | .int z,cs=>a6g E w z cs
  | .frac q,cs=>∃xs ys,cs=xs++ys∧a6g E w q.num xs∧a6g E w q.den ys
  | .rint z,cs=>RintR E w z cs
  | .ints k l,cs=>∃x,cs= [x]∧a6t E w k l x
  | .nn k l,cs=>∃x,cs= [x]∧NnR E w k l x
  | .row sz n g,cs=>(n=0∧cs= [.slice none 0 0])∨
      ∃b o c,cs= [.slice (some ⟨b,o,none⟩) n c]∧E.ok w b∧n≤c∧∀i,i < n→∃es:List Value,s8 (g i)=sz∧j7 E.shut w (g i) es∧w.rangeAt b (o+i*sz) es
  | .fn f first captured,cs=>∃xs ys:List Value,cs= [.func f xs.toArray ys.toArray]∧j7 E w first xs∧j7 E w captured ys
def j7 (E:u6) (w:World):List i7→List Value→Prop
  | [],cs=>cs= []
  | l :: ls,cs=>∃xs ys,cs=xs++ys∧i7.R E w l xs∧j7 E w ls ys
end
mutual
def RV (E:u6) (w:World):AV→Value→Prop
  | .one x,y=>x.size=1∧i7.R E w x [y]
  | .agg xs,y=>∃cs,y= .agg cs.toArray∧j7 E w xs cs
  | .tup xs,y=>∃vs,y= .tuple vs.toArray∧RVs E w xs vs
  | .u,_=>True
def RVs (E:u6) (w:World):List AV→List Value→Prop
  | [],vs=>vs= []
  | x :: xs,vs=>∃v r,vs=v :: r∧RV E w x v∧RVs E w xs r
end
structure Box where
  sz:Nat
  n:Nat
  g:Nat→List i7
  ro:Bool:=false
def a6f (E:u6) (w:World) (b:Nat) (bx:Box):Prop:=
  (bx.ro=true∧bx.n=0)∨∃k c T,E.ρ b=some k∧w.heap[k]?=some (.cells c T (0,0))∧bx.n*bx.sz≤c.size∧
    ∀i,i < bx.n→∃es:List Value,s8 (bx.g i)=bx.sz∧j7 E w (bx.g i) es∧∀j v,es[j]?=some v→c[i*bx.sz+j]?=some v
structure a3q (E:u6) (w:World):Prop where
  m:∀k,E.M k→k < w.heap.size
  r:∀b k,E.ρ b=some k→k < w.heap.size
  inj:∀b b' k,E.ρ b=some k→E.ρ b'=some k→b=b'
theorem a6g.length {E w z cs} (h:a6g E w z cs):cs.length=2:=by
  rcases h with ⟨rfl,_⟩|⟨ds,b,o,c,rfl,_⟩<;> rfl
theorem a6g.one {E w z cs} (h:a6g E w z cs):∀c∈cs,c.oneCell'=true:=by
  rcases h with ⟨rfl,_⟩|⟨ds,b,o,c,rfl,_⟩<;> simp [Value.oneCell']
theorem a6t.one {E w k l x} (h:a6t E w k l x):x.oneCell'=true:=by
  rcases h with ⟨_,rfl⟩|⟨b,o,c,rfl,_⟩<;> rfl
theorem NnR.one {E w k l x} (h:NnR E w k l x):x.oneCell'=true:=by
  obtain ⟨b,o,c,rfl,_⟩:=h;rfl
theorem i7.R_len {E:u6} {w:World} {l:i7} {cs:List Value} (h:l.R E w cs):cs.length=l.size∧∀c∈cs,c.oneCell'=true:=by
  cases l with
  | v x=>obtain ⟨rfl,h⟩:=h;simp [i7.size,h]
  | u=>obtain ⟨x,rfl,h⟩:=h;simp [i7.size,h]
  | ptr b sz i o=>obtain ⟨k,_,rfl⟩:=h;simp [i7.size,Value.oneCell']
  | own b sz i n c=>obtain ⟨k,_,rfl⟩:=h;simp [i7.size,Value.oneCell']
  | gr b sz n c=>rcases h with ⟨_,_,rfl⟩|⟨k,_,rfl⟩<;> simp [i7.size,Value.oneCell']
  | pp x=>obtain ⟨b,o,es,rfl,_⟩:=h;simp [i7.size,Value.oneCell']
  | int z=>exact ⟨a6g.length h,a6g.one h⟩
  | frac q =>
    obtain ⟨xs,ys,rfl,h1,h2⟩:=h
    refine ⟨by simp [i7.size,a6g.length h1,a6g.length h2],fun c hc=>?_⟩
    rcases List.mem_append.1 hc with hc|hc
    · exact a6g.one h1 c hc
    · exact a6g.one h2 c hc
  | rint z =>
    obtain ⟨ds,x,rfl,h1,_⟩:=h
    exact ⟨rfl,by simpa [Value.oneCell'] using a6t.one h1⟩
  | ints k l=>obtain ⟨x,rfl,h1⟩:=h;exact ⟨rfl,by simpa using a6t.one h1⟩
  | nn k l=>obtain ⟨x,rfl,h1⟩:=h;exact ⟨rfl,by simpa using NnR.one h1⟩
  | row sz n g=>rcases h with ⟨_,rfl⟩|⟨b,o,c,rfl,_⟩<;> simp [i7.size,Value.oneCell']
  | fn f a b=>obtain ⟨xs,ys,rfl,_⟩:=h;simp [i7.size,Value.oneCell']
theorem w7 {E:u6} {w:World}:∀{ls:List i7} {cs:List Value},j7 E w ls cs→cs.length=s8 ls∧∀c∈cs,c.oneCell'=true
  | [],cs,h=>by obtain rfl:cs= []:=h;simp [s8]
  | l :: ls, cs, h => by
    obtain ⟨xs,ys,rfl,h1,h2⟩:=h
    have a:=i7.R_len h1
    have b:=w7 h2
    refine ⟨by simp [s8,a.1,b.1],fun c hc=>?_⟩
    rcases List.mem_append.1 hc with hc|hc
    · exact a.2 c hc
    · exact b.2 c hc
structure a0s (E:u6) (w:World) (E':u6) (w':World):Prop where
  ρ:∀b k,E.ρ b=some k→E'.ρ b=some k
  ok:∀k,E.ok w k→E'.ok w' k
  heap:∀k,E.ok w k→w'.heap[k]?=w.heap[k]?
theorem a0s.shut {E w E' w'} (h:a0s E w E' w'):a0s E.shut w E'.shut w':=
  ⟨(fun _ _ h=>(by cases h)),fun _ hk=>a1z.2 (h.ok _ (a1z.1 hk)),fun _ hk=>h.heap _ (a1z.1 hk)⟩
theorem a0s.range {E w E' w'} (h:a0s E w E' w') {b o:Nat} {cs:List Value} (hb:E.ok w b) (hr:w.rangeAt b o cs):w'.rangeAt b o cs:=
  fun j v hv=>(World.cell?_of_block (w:=w) (h.heap b hb)).trans (hr j v hv)
theorem a0s.ints {E w E' w'} (h:a0s E w E' w') {k:IntKind} {l:List Int} {x:Value} (hx:a6t E w k l x):a6t E' w' k l x:=by
  rcases hx with hx|⟨b,o,c,rfl,h1,h2,h3⟩
  · exact .inl hx
  · exact .inr ⟨b,o,c,rfl,h.ok b h1,h2,h.range h1 h3⟩
theorem a0s.nn {E w E' w'} (h:a0s E w E' w') {k:IntKind} {l:List Int} {x:Value} (hx:NnR E w k l x):NnR E' w' k l x:=by
  obtain ⟨b,o,c,rfl,h1,h2,h3⟩:=hx
  exact ⟨b,o,c,rfl,h.ok b h1,h2,h.range h1 h3⟩
theorem a0s.int {E w E' w'} (h:a0s E w E' w') {z:Int} {cs:List Value} (hx:a6g E w z cs):a6g E' w' z cs:=by
  rcases hx with hx|⟨ds,b,o,c,rfl,h1,h2,h3,h4⟩
  · exact .inl hx
  · exact .inr ⟨ds,b,o,c,rfl,h.ok b h1,h2,h.range h1 h3,h4⟩
mutual
theorem a0s.leaf {E w E' w'} (h:a0s E w E' w'):∀{l:i7} {cs:List Value},l.R E w cs→l.R E' w' cs
  | .v _,_,hx=>hx
  | .u,_,hx=>hx
  | .ptr _ _ _ _,_,hx=>by obtain ⟨k,a,b⟩:=hx;exact ⟨k,h.ρ _ _ a,b⟩
  | .own _ _ _ _ _,_,hx=>by obtain ⟨k,a,b⟩:=hx;exact ⟨k,h.ρ _ _ a,b⟩
  | .gr _ _ _ _, _, hx => by
    rcases hx with hx|⟨k,a,b⟩
    · exact .inl hx
    · exact .inr ⟨k,h.ρ _ _ a,b⟩
  | .pp x,_,hx=>by obtain ⟨b,o,es,a,c,d,e⟩:=hx;exact ⟨b,o,es,a,h.ok b c,a0s.leaves h.shut d,h.range c e⟩
  | .int z,_,hx=>h.int (z:=z) hx
  | .frac q,_,hx=>by obtain ⟨xs,ys,a,b,c⟩:=hx;exact ⟨xs,ys,a,h.int b,h.int c⟩
  | .rint z,_,hx=>by obtain ⟨ds,x,a,b,c⟩:=hx;exact ⟨ds,x,a,h.ints b,c⟩
  | .ints k l,_,hx=>by obtain ⟨x,a,b⟩:=hx;exact ⟨x,a,h.ints b⟩
  | .nn k l,_,hx=>by obtain ⟨x,a,b⟩:=hx;exact ⟨x,a,h.nn b⟩
  | .row sz n g, _, hx => by
    rcases hx with hx|⟨b,o,c,a,hb,hn,hg⟩
    · exact .inl hx
    · refine .inr ⟨b,o,c,a,h.ok b hb,hn,fun i hi=>?_⟩
      obtain ⟨es,h0,h1,h2⟩:=hg i hi
      exact ⟨es,h0,a0s.leaves h.shut h1,h.range hb h2⟩
  | .fn f a b,_,hx=>by obtain ⟨xs,ys,e,h1,h2⟩:=hx;exact ⟨xs,ys,e,a0s.leaves h h1,a0s.leaves h h2⟩
theorem a0s.leaves {E w E' w'} (h:a0s E w E' w'):∀{ls:List i7} {cs:List Value},j7 E w ls cs→j7 E' w' ls cs
  | [],_,hx=>hx
  | _ :: _,_,hx=>by obtain ⟨xs,ys,a,b,c⟩:=hx;exact ⟨xs,ys,a,a0s.leaf h b,a0s.leaves h c⟩
end
mutual
theorem a0s.rv {E w E' w'} (h:a0s E w E' w'):∀{x:AV} {v:Value},RV E w x v→RV E' w' x v
  | .one _,_,hx=>⟨hx.1,h.leaf hx.2⟩
  | .agg _,_,hx=>by obtain ⟨cs,a,b⟩:=hx;exact ⟨cs,a,h.leaves b⟩
  | .tup _,_,hx=>by obtain ⟨vs,a,b⟩:=hx;exact ⟨vs,a,a0s.rvs h b⟩
  | .u,_,_=>trivial
theorem a0s.rvs {E w E' w'} (h:a0s E w E' w'):∀{xs:List AV} {vs:List Value},RVs E w xs vs→RVs E' w' xs vs
  | [],_,hx=>hx
  | _ :: _,_,hx=>by obtain ⟨v,r,a,b,c⟩:=hx;exact ⟨v,r,a,a0s.rv h b,a0s.rvs h c⟩
end
theorem a0s.refl (E:u6) (w:World):a0s E w E w:=⟨fun _ _ h=>h,fun _ h=>h,fun _ _=>rfl⟩
theorem a0s.trans {E w E' w' E'' w''} (h:a0s E w E' w') (k:a0s E' w' E'' w''):a0s E w E'' w'':=
  ⟨fun _ _ a=>k.ρ _ _ (h.ρ _ _ a),fun _ a=>k.ok _ (h.ok _ a),fun j a=>(k.heap j (h.ok _ a)).trans (h.heap j a)⟩
theorem a3f {E:u6} {w w':World} (hb:Below w.heap.size w w'):a0s E w E w':=
  ⟨fun _ _ h=>h,fun _ h=>⟨Nat.lt_of_lt_of_le h.1 hb.size,h.2⟩,fun k h=>hb.block k h.1⟩
def u6.add (E:u6) (id k:Nat):u6:={ E with ρ:=fun b=>if b=id then some k else E.ρ b }
theorem b6w {E:u6} {w w':World} (hb:Below w.heap.size w w') {id k:Nat} (hid:E.ρ id=none) (hk:w.heap.size≤k):a0s E w (E.add id k) w':=by
  refine ⟨fun b j h=>?_,fun j h=>⟨Nat.lt_of_lt_of_le h.1 hb.size,h.2.1,fun b=>?_⟩,fun j h=>hb.block j h.1⟩
  · by_cases e:b=id
    · subst e;rw [hid] at h;cases h
    · simpa [u6.add,e] using h
  · by_cases e:b=id
    · have:=h.1;simp [u6.add,e];omega
    · simpa [u6.add,e] using h.2.2 b
structure b0w (k:Nat) (w w':World):Prop where
  os:w'.os=w.os
  tape:w'.tape=w.tape
  output:w'.output=w.output
  size:w.heap.size≤w'.heap.size
  block:∀j,j < w.heap.size→j≠k→w'.heap[j]?=w.heap[j]?
theorem b7z {E:u6} {w w':World} {id k:Nat} (hw:b0w k w w') (hid:E.ρ id=some k):a0s E w E w':=
  ⟨fun _ _ h=>h,fun _ h=>⟨Nat.lt_of_lt_of_le h.1 hw.size,h.2⟩,fun j h=>hw.block j h.1 (fun e=>h.2.2 id (e ▸ hid))⟩
theorem a3q.below {E:u6} {w w':World} (h:a3q E w) (hb:w.heap.size≤w'.heap.size):a3q E w':=
  ⟨fun k hk=>Nat.lt_of_lt_of_le (h.m k hk) hb,fun b k hk=>Nat.lt_of_lt_of_le (h.r b k hk) hb,h.inj⟩
theorem a3q.add {E:u6} {w w':World} (h:a3q E w) (hb:w.heap.size≤w'.heap.size) {id k:Nat} (hk:w.heap.size≤k) (hk':k < w'.heap.size):a3q (E.add id k) w':=by
  refine ⟨fun j hj=>Nat.lt_of_lt_of_le (h.m j hj) hb,fun b j hj=>?_,fun b b' j hj hj'=>?_⟩
  · by_cases e:b=id
    · simp [u6.add,e] at hj;omega
    · simp [u6.add,e] at hj;exact Nat.lt_of_lt_of_le (h.r b j hj) hb
  · by_cases e:b=id <;> by_cases e':b'=id
    · rw [e,e']
    · simp [u6.add,e] at hj;simp [u6.add,e'] at hj';have:=h.r _ _ hj';omega
    · simp [u6.add,e] at hj;simp [u6.add,e'] at hj';have:=h.r _ _ hj;omega
    · simp [u6.add,e] at hj;simp [u6.add,e'] at hj';exact h.inj _ _ _ hj hj'
theorem a6f.keeps {E w E' w' b bx} (h:a6f E w b bx) (hk:a0s E w E' w') (hb:∀k,E.ρ b=some k→w'.heap[k]?=w.heap[k]?):a6f E' w' b bx:=by
  rcases h with h|⟨k,c,T,h1,h2,h3,h4⟩
  · exact .inl h
  refine .inr ⟨k,c,T,hk.ρ _ _ h1,(hb k h1).trans h2,h3,fun i hi=>?_⟩
  obtain ⟨es,a,b,c⟩:=h4 i hi
  exact ⟨es,a,hk.leaves b,c⟩
theorem b7y {E w k l x} (h:a6t (u6.shut E) w k l x):a6t E w k l x:=by
  rcases h with h|⟨b,o,c,h1,h2,h3⟩
  · exact .inl h
  · exact .inr ⟨b,o,c,h1,a1z.1 h2,h3⟩
theorem b3v {E w z cs} (h:a6g (u6.shut E) w z cs):a6g E w z cs:=by
  rcases h with h|⟨ds,b,o,c,h1,h2,h3⟩
  · exact .inl h
  · exact .inr ⟨ds,b,o,c,h1,a1z.1 h2,h3⟩
mutual
theorem e2b {w:World}:∀{l:i7} {E:u6} {cs:List Value},l.R E.shut w cs→l.R E w cs
  | .v _,_,_,hx=>hx
  | .u,_,_,hx=>hx
  | .ptr _ _ _ _,_,_,hx=>by obtain ⟨k,a,b⟩:=hx;cases a
  | .own _ _ _ _ _,_,_,hx=>by obtain ⟨k,a,b⟩:=hx;cases a
  | .gr _ _ _ _, _, _, hx => by
    rcases hx with hx|⟨k,a,b⟩
    · exact .inl hx
    · cases a
  | .pp x,_,_,hx=>by obtain ⟨b,o,es,a,c,d,e⟩:=hx;exact ⟨b,o,es,a,a1z.1 c,a73 d,e⟩
  | .int z,_,_,hx=>b3v (z:=z) hx
  | .frac q,_,_,hx=>by obtain ⟨xs,ys,a,b,c⟩:=hx;exact ⟨xs,ys,a,b3v b,b3v c⟩
  | .rint z,_,_,hx=>by obtain ⟨ds,x,a,b,c⟩:=hx;exact ⟨ds,x,a,b7y b,c⟩
  | .ints k l,_,_,hx=>by obtain ⟨x,a,b⟩:=hx;exact ⟨x,a,b7y b⟩
  | .nn k l,_,_,hx=>by obtain ⟨x,a,b,o,c,h1,h2,h3⟩:=hx;exact ⟨x,a,b,o,c,h1,a1z.1 h2,h3⟩
  | .row sz m g, _, _, hx => by
    rcases hx with hx|⟨b,o,c,a,hb,hn,hg⟩
    · exact .inl hx
    · refine .inr ⟨b,o,c,a,a1z.1 hb,hn,fun i hi=>?_⟩
      obtain ⟨es,h0,h1,h2⟩:=hg i hi
      exact ⟨es,h0,a73 h1,h2⟩
  | .fn f a b,_,_,hx=>by obtain ⟨xs,ys,e,h1,h2⟩:=hx;exact ⟨xs,ys,e,a73 h1,a73 h2⟩
theorem a73 {w:World}:∀{ls:List i7} {E:u6} {cs:List Value},j7 E.shut w ls cs→j7 E w ls cs
  | [],_,_,hx=>hx
  | _ :: _,_,_,hx=>by obtain ⟨xs,ys,a,b,c⟩:=hx;exact ⟨xs,ys,a,e2b b,a73 c⟩
end
-- axioms of a73
end Go.Ax
end
section
namespace Go.Ax
open Go.RowKit (Below)
inductive Eff where
  | none
  | new (id:Nat) (bx:Box)
  | set (id:Nat) (bx:Box)
structure b8b where
  val:AV
  eff:Eff:=.none
  reads:List Nat:=[]
def Eff.id?:Eff→Option Nat
  | .none=>Option.none
  | .new id _=>some id
  | .set id _=>some id
def a89 (it:b8b) (E:u6) (w:World) (E':u6) (w':World):Prop:=
  match it.eff with
  | .none=>E'=E∧Below w.heap.size w w'
  | .new id bx=>∃k,w.heap.size≤k∧k < w'.heap.size∧E.ρ id=Option.none∧E'=E.add id k∧Below w.heap.size w w'∧a6f E' w' id bx
  | .set id bx=>E'=E∧∃k,E.ρ id=some k∧b0w k w w'∧a6f E' w' id bx
theorem a89.keeps {it E w E' w'} (h:a89 it E w E' w'):a0s E w E' w':=by
  unfold a89 at h
  split at h
  · obtain ⟨rfl,hb⟩:=h;exact a3f hb
  · obtain ⟨k,h1,h2,h3,rfl,h4,h5⟩:=h;exact b6w h4 h3 h1
  · obtain ⟨rfl,k,h1,h2,h3⟩:=h;exact b7z h2 h1
theorem a89.env {it E w E' w'} (h:a89 it E w E' w') (ho:a3q E w):a3q E' w':=by
  unfold a89 at h
  split at h
  · obtain ⟨rfl,hb⟩:=h;exact ho.below hb.size
  · obtain ⟨k,h1,h2,h3,rfl,h4,h5⟩:=h;exact ho.add h4.size h1 h2
  · obtain ⟨rfl,k,h1,h2,h3⟩:=h;exact ho.below h2.size
section
variable (P:Program) (G:World→Prop)
def n4 (o:Oper) (ev:Operand→AV) (H:Nat→Option Box) (it:b8b):Prop:=
  ∀(E:u6) (w:World) (a:Act) (K:Act→World→Prop) (Q:Exit→Act→World→Prop),a3q E w→G w→
    (∀x∈o.op.operands,RV E w (ev x) (a.eval x))→
    (∀b,b∈it.reads∨it.eff.id?=some b→∀bx,H b=some bx→a6f E w b bx)→
    (∀id bx,it.eff= .new id bx→E.ρ id=none)→
    (∀v E' w',RV E' w' it.val v→a89 it E w E' w'→K (a.put o.dst v) w')→o.wp P a w K Q
end
structure y5 where
  dst:Option Tmp
  it:Option b8b
def y5.val (d:y5):AV:=match d.it with|some i=>i.val|none=>.tup []
def y5.eff (d:y5):Eff:=match d.it with|some i=>i.eff|none=>.none
def y5.reads (d:y5):List Nat:=match d.it with|some i=>i.reads|none=> []
def y9 (t:Nat→AV) (tr:Nat→y5) (S:Nat→Bool):Nat→Nat→AV
  | 0,n=>t n
  | k+1,n=>if S k=true∧(tr k).dst=some n then (tr k).val else y9 t tr S k n
def a0n (h:Nat→Option Box) (tr:Nat→y5) (S:Nat→Bool):Nat→Nat→Option Box
  | 0,b=>h b
  | k+1,b=>if S k=true then (match (tr k).eff with
      | .new id bx=>if id=b then some bx else a0n h tr S k b
      | .set id bx=>if id=b then some bx else a0n h tr S k b
      | .none=>a0n h tr S k b) else a0n h tr S k b
theorem a5p {t:Nat→AV} {tr:Nat→y5} {S S':Nat→Bool} {n:Nat}:∀{k:Nat},(∀j,j < k→(tr j).dst=some n→S j=S' j)→y9 t tr S k n=y9 t tr S' k n
  | 0,_=>rfl
  | k + 1, h => by
    have ih:=a5p (t:=t) (k:=k) (fun j hj hd=>h j (Nat.lt_succ_of_lt hj) hd)
    simp only [y9]
    by_cases hd:(tr k).dst=some n
    · rw [h k (Nat.lt_succ_self k) hd,ih]
    · simp [hd,ih]
theorem a3w {h:Nat→Option Box} {tr:Nat→y5} {S S':Nat→Bool} {b:Nat}:∀{k:Nat},(∀j,j < k→(tr j).eff.id?=some b→S j=S' j)→a0n h tr S k b=a0n h tr S' k b
  | 0,_=>rfl
  | k + 1, hh => by
    have ih:=a3w (h:=h) (k:=k) (fun j hj hd=>hh j (Nat.lt_succ_of_lt hj) hd)
    have hk:=hh k (Nat.lt_succ_self k)
    simp only [a0n]
    cases he:(tr k).eff with
    | none=>simp [ih]
    | new id bx =>
      by_cases e:id=b
      · rw [hk (by simp [he,Eff.id?,e]),ih]
      · simp [e,ih]
    | set id bx =>
      by_cases e:id=b
      · rw [hk (by simp [he,Eff.id?,e]),ih]
      · simp [e,ih]
theorem b5n {t:Nat→AV} {tr:Nat→y5} {S:Nat→Bool} {n j:Nat} (hS:S j=true) (hj:(tr j).dst=some n) :
    ∀{k:Nat},j < k→(∀i,j < i→i < k→(tr i).dst=some n→S i=false)→y9 t tr S k n=(tr j).val
  | 0,h,_=>absurd h (by omega)
  | k + 1, hlt, h => by
    simp only [y9]
    by_cases e:k=j
    · subst e;simp [hS,hj]
    · have:¬(S k=true∧(tr k).dst=some n):=fun ⟨a,b⟩=>by have:=h k (by omega) (by omega) b;rw [this] at a;cases a
      rw [if_neg this]
      exact b5n hS hj (by omega) (fun i h1 h2=>h i h1 (by omega))
theorem b4h {h:Nat→Option Box} {tr:Nat→y5} {S:Nat→Bool} {b j:Nat} {bx:Box} (hS:S j=true) (hj:(tr j).eff= .new b bx∨(tr j).eff= .set b bx) :
    ∀{k:Nat},j < k→(∀i,j < i→i < k→(tr i).eff.id?=some b→S i=false)→a0n h tr S k b=some bx
  | 0,hlt,_=>absurd hlt (by omega)
  | k + 1, hlt, hh => by
    by_cases e:k=j
    · subst e
      rcases hj with hj|hj <;> simp [a0n,hS,hj]
    · have ih:=b4h (h:=h) hS hj (k:=k) (by omega) (fun i h1 h2=>hh i h1 (by omega))
      have hk:=hh k (by omega) (by omega)
      simp only [a0n]
      split
      · rename_i hSk
        split
        · rename_i id bx' he
          by_cases e':id=b
          · have:=hk (by simp [he,Eff.id?,e']);rw [this] at hSk;cases hSk
          · simp [e',ih]
        · rename_i id bx' he
          by_cases e':id=b
          · have:=hk (by simp [he,Eff.id?,e']);rw [this] at hSk;cases hSk
          · simp [e',ih]
        · exact ih
      · exact ih
def a1b (S:Nat→Bool) (j:Nat):Nat→Bool:=fun i=>i == j || S i
end Go.Ax
end
section
namespace Go.Ax
inductive TyK where
  | struct (offs:List (Nat×Nat×Bool))
  | array (n e sz:Nat)
  | slice (e sz:Nat)
  | int (k:IntKind)
  | string
  | bool
  | other
section
variable (P:Program)
def c3s (F:TypeId→Option (List TyK)):List Field→Nat→Option (List TyK)
  | [],_=>some []
  | f :: r, off => match F f.type with
    | some ks => match f.name != "_" && f.offset == off && Nat.ble 1 ks.length && ks.length == P.cellsOf f.type with
      | true => match c3s F r (off + ks.length) with
        | some l=>some (ks++l)
        | none=>none
      | false=>none
    | none=>none
def b40:Nat→TypeId→Option (List TyK)
  | 0,_=>none
  | d + 1, t => match P.underlying t with
    | some (.int k)=>some [.int k]
    | some .string=>some [.string]
    | some .bool=>some [.bool]
    | some (.array n e) => match b40 d e with
      | some ks => match Nat.ble 1 ks.length && ks.length == P.cellsOf e with
        | true=>some (List.replicate n ks).flatten
        | false=>none
      | none=>none
    | some (.struct fs) => match P.stoodInHeld t with
      | true=>none
      | false=>c3s P (b40 d) fs.toList 0
    | _=>none
end
structure TyI where
  size:Nat
  bytes:Nat
  agg:Bool
  kind:TyK
  zero:Option (List Value)
  flat:Option (List TyK)
def tyI (P:Program) (t:TypeId):Option TyI:=
  match P.info? t,P.underlying t with
  | some i,some d=>some {
      size:=i.size,bytes:=i.bytes,agg:=d.isRow
      kind:=match d with
        | .struct fs=>.struct (fs.toList.map fun f=>(f.offset,P.cellsOf f.type,((P.underlying f.type).map (·.isRow)).getD false))
        | .array n e=>.array n e (P.cellsOf e)
        | .slice e=>.slice e (P.cellsOf e)
        | .int k=>.int k
        | .string=>.string
        | .bool=>.bool
        | _=>.other
      zero:=i.zero.map fun z=>z.cells.toList
      flat:=match P.eqGuardType P.depth t with
        | true=>none
        | false=>b40 P 8 t }
  | _,_=>none
theorem a4x {P:Program} {t:TypeId} {ti:TyI} (h:tyI P t=some ti):∃i d,P.info? t=some i∧P.underlying t=some d∧i.size=ti.size∧i.bytes=ti.bytes∧d.isRow=ti.agg∧ti.zero=i.zero.map (fun z=>z.cells.toList):=by
  unfold tyI at h
  split at h
  · rename_i i d h1 h2
    cases h
    exact ⟨i,d,h1,h2,rfl,rfl,rfl,rfl⟩
  · cases h
def a2e (P:Program) (tt:TypeId→Option TyI):Prop:=∀t ti,tt t=some ti→tyI P t=some ti
end Go.Ax
end
section
namespace Go.Ax
open Go.RowKit (Below)
structure a4i (W:Nat→Prop) (B:Nat) (w w':World):Prop where
  os:w'.os=w.os
  tape:w'.tape=w.tape
  output:w'.output=w.output
  size:w.heap.size≤w'.heap.size
  block:∀k,k < B→¬W k→w'.heap[k]?=w.heap[k]?
theorem a4i.refl {W:Nat→Prop} {B:Nat} (w:World):a4i W B w w:=⟨rfl,rfl,rfl,Nat.le_refl _,fun _ _ _=>rfl⟩
theorem a4i.below {W:Nat→Prop} {B:Nat} {a b c:World} (h:a4i W B a b) (k:Below b.heap.size b c) (hB:B≤b.heap.size):a4i W B a c:=
  ⟨k.os.trans h.os,k.tape.trans h.tape,k.output.trans h.output,Nat.le_trans h.size k.size,fun i hi hw=>(k.block i (Nat.lt_of_lt_of_le hi hB)).trans (h.block i hi hw)⟩
theorem a4i.plain {B:Nat} {w w':World} (h:a4i (fun _=>False) B w w'):Below B w w':=⟨h.os,h.tape,h.output,h.size,fun k hk=>h.block k hk id⟩
structure Ctx where
  P:Program
  tt:TypeId→Option TyI
  G:World→Prop
  N:Nat
  w0:World
  E0:u6
  nb0:Nat
  W:Nat→Prop
  ns:Nat
  defs:List Deferred
structure a0d (c:Ctx):Prop where
  tt:a2e c.P c.tt
  g:∀w,a4i c.W c.w0.heap.size c.w0 w→c.G w
  e0:∀b,c.nb0≤b→c.E0.ρ b=none
  ns:c.ns≤c.nb0
  m:∀k,c.E0.M k→k < c.w0.heap.size
structure St where
  t:Nat→AV
  h:Nat→Option Box
  nb:Nat
structure SR0 (c:Ctx) (t:Nat→AV) (h:Nat→Option Box) (F:Nat→Prop) (E:u6) (a:Act) (w:World):Prop where
  size:a.tmps.size=c.N
  defers:a.defers=c.defs
  slots:∀n,RV E w (t n) (a.tmps.getD n undef)
  boxes:∀b bx,h b=some bx→a6f E w b bx
  env:a3q E w
  below:a4i c.W c.w0.heap.size c.w0 w
  own:∀b k,c.ns≤b→E.ρ b=some k→c.w0.heap.size≤k∨(c.W k∧¬c.E0.M k)
  low:∀b,b < c.nb0→E.ρ b=c.E0.ρ b
  m:E.M=c.E0.M
  free:∀b,F b→E.ρ b=none
def SR (c:Ctx) (st:St):=SR0 c st.t st.h (fun b=>st.nb≤b)
def a1o (t:Nat→AV):Operand→AV
  | .tmp n=>t n
  | .const v => match v with
    | .agg cs=>.agg (cs.toList.map i7.v)
    | .tuple _=>.u
    | v=>.one (.v v)
  | .global g=>.one (.v (.pointer (some ⟨g,0,none⟩)))
  | .func f=>.one (.fn (.func f) [] [])
theorem a6m {E:u6} {w:World}:∀(cs:List Value),cs.all (·.oneCell')=true→j7 E w (cs.map i7.v) cs
  | [],_=>rfl
  | c :: cs, h => by
    simp only [List.all_cons,Bool.and_eq_true] at h
    exact ⟨[c],cs,rfl,⟨rfl,h.1⟩,a6m cs h.2⟩
def a0v:Operand→Bool
  | .const (.agg cs)=>cs.toList.all (·.oneCell')
  | _=>true
theorem a98 {E:u6} {w:World} {t:Nat→AV} {a:Act} (h:∀n,RV E w (t n) (a.tmps.getD n undef)) (x:Operand) (hx:a0v x=true):RV E w (a1o t x) (a.eval x):=by
  cases x with
  | tmp n=>exact h n
  | const v=>cases v <;> first|exact ⟨_,by simp [Act.eval],a6m _ hx⟩|exact ⟨rfl,rfl,rfl⟩|trivial
  | global g=>exact ⟨rfl,rfl,rfl⟩
  | func f=>exact ⟨rfl,[],[],rfl,rfl,rfl⟩
theorem a89.sr {c:Ctx} {it:b8b} {E E':u6} {w w':World} {F F':Nat→Prop} {t h t' h'} {a:Act} {dst:Option Tmp} {v:Value}
    (s:SR0 c t h F E a w) (r:a89 it E w E' w') (hv:RV E' w' it.val v) (hd:∀d,dst=some d→d < c.N)
    (hset:∀id bx,it.eff= .set id bx→c.ns≤id)
    (ht:∀n,(dst=some n→t' n=it.val)∧(dst≠some n→t' n=t n))
    (hh:∀b,(∀bx,(it.eff= .new b bx∨it.eff= .set b bx)→h' b=some bx)∧(it.eff.id?≠some b→h' b=h b))
    (hF:∀b,F' b→F b∧∀bx,it.eff≠.new b bx)
    (hnew:∀id bx,it.eff= .new id bx→c.nb0≤id) :
    SR0 c t' h' F' E' (a.put dst v) w':=by
  have hk:=r.keeps
  have hρ:∀b k,E'.ρ b=some k→E.ρ b=some k∨(∃bx,it.eff= .new b bx∧w.heap.size≤k):=by
    intro b k hb
    unfold a89 at r
    split at r
    · obtain ⟨rfl,_⟩:=r;exact .inl hb
    · rename_i id bx he
      obtain ⟨k',h1,h2,h3,rfl,_⟩:=r
      by_cases e:b=id
      · subst e;simp [u6.add] at hb;subst hb;exact .inr ⟨bx,he,h1⟩
      · simp [u6.add,e] at hb;exact .inl hb
    · obtain ⟨rfl,_⟩:=r;exact .inl hb
  have hρ':∀b,b < c.nb0→E'.ρ b=E.ρ b:=by
    intro b hb
    unfold a89 at r
    split at r
    · rw [r.1]
    · rename_i id bx he
      obtain ⟨k',h1,h2,h3,rfl,_⟩:=r
      have:=hnew id bx he
      have:b≠id:=by omega
      simp [u6.add,this]
    · rw [r.1]
  refine ⟨?_,?_,?_,?_,r.env s.env,?_,?_,fun b hb=>(hρ' b hb).trans (s.low b hb),?_,?_⟩
  · cases dst with
    | none=>exact s.size
    | some d=>simpa [Act.put] using s.size
  · cases dst with
    | none=>exact s.defers
    | some d=>exact s.defers
  · intro n
    by_cases e:dst=some n
    · subst e
      rw [(ht n).1 rfl]
      have:n < a.tmps.size:=by rw [s.size];exact hd n rfl
      simpa [Act.put,Array.getD_eq_getD_getElem?,this] using hv
    · rw [(ht n).2 e]
      have:(a.put dst v).tmps.getD n undef=a.tmps.getD n undef:=by
        cases dst with
        | none=>rfl
        | some d =>
          have:d≠n:=fun h=>e (by rw [h])
          simp [Act.put,Array.getD_eq_getD_getElem?,Array.getElem?_setIfInBounds_ne this]
      rw [this]
      exact hk.rv (s.slots n)
  · intro b bx hb
    by_cases e:it.eff.id?=some b
    · have:∃bx',(it.eff= .new b bx'∨it.eff= .set b bx'):=by
        cases he:it.eff with
        | none=>rw [he] at e;cases e
        | new id bx'=>rw [he] at e;simp [Eff.id?] at e;subst e;exact ⟨bx',.inl rfl⟩
        | set id bx'=>rw [he] at e;simp [Eff.id?] at e;subst e;exact ⟨bx',.inr rfl⟩
      obtain ⟨bx',hx⟩:=this
      have:=(hh b).1 bx' hx
      rw [this] at hb;cases hb
      unfold a89 at r
      rcases hx with hx|hx <;> simp only [hx] at r
      · obtain ⟨_,_,_,_,_,_,h⟩:=r;exact h
      · obtain ⟨_,_,_,_,h⟩:=r;exact h
    · rw [(hh b).2 e] at hb
      refine (s.boxes b bx hb).keeps hk fun k hbk=>?_
      unfold a89 at r
      split at r
      · exact r.2.block k (s.env.r _ _ hbk)
      · obtain ⟨_,_,_,_,_,hbl,_⟩:=r;exact hbl.block k (s.env.r _ _ hbk)
      · rename_i id bx' he
        obtain ⟨_,k',h1,h2,_⟩:=r
        refine h2.block k (s.env.r _ _ hbk) fun ek=>e ?_
        subst ek
        rw [he,s.env.inj _ _ _ h1 hbk];rfl
  · unfold a89 at r
    split at r
    · exact s.below.below r.2 s.below.size
    · obtain ⟨_,_,_,_,_,hbl,_⟩:=r;exact s.below.below hbl s.below.size
    · rename_i id bx' he
      obtain ⟨_,k',h1,h2,_⟩:=r
      have hk':=s.own _ _ (hset id bx' he) h1
      have hsz:=s.below.size
      exact ⟨h2.os.trans s.below.os,h2.tape.trans s.below.tape,h2.output.trans s.below.output,Nat.le_trans hsz h2.size,
        fun j hj hw=>(h2.block j (by omega) (fun e=>by
          subst e
          rcases hk' with hk'|hk'
          · omega
          · exact hw hk'.1)).trans (s.below.block j hj hw)⟩
  · intro b k hb0 hb
    rcases hρ b k hb with h|⟨bx,he,hle⟩
    · exact s.own b k hb0 h
    · exact .inl (Nat.le_trans s.below.size hle)
  · unfold a89 at r
    split at r
    · rw [r.1];exact s.m
    · obtain ⟨_,_,_,_,e,_⟩:=r;rw [e];exact s.m
    · rw [r.1];exact s.m
  · intro b hb
    cases hr:E'.ρ b with
    | none=>rfl
    | some k =>
      rcases hρ b k hr with h|⟨bx,he,_⟩
      · rw [s.free b (hF b hb).1] at h;cases h
      · exact absurd he ((hF b hb).2 bx)
-- axioms of a89.sr
end Go.Ax
end
section
namespace Go.Ax
open Go.RowKit (Below)
def a1k (ops:Array Oper) (o:Oper) (t:Nat→AV) (r:Bool):Prop:=
  match o.guard with
  | none=>r=true
  | some (j,want)=>∃d b,(ops[j]?).bind (·.dst)=some d∧((t d= .one (.v (.bool b))∧r=(b == want))∨(t d= .tup []∧r=false))
theorem a87 {E:u6} {w:World} {ops:Array Oper} {o:Oper} {t:Nat→AV} {a:Act} {r:Bool} {N:Nat} (hN:a.tmps.size=N)
    (h:a1k ops o t r) (hd:∀j want d,o.guard=some (j,want)→(ops[j]?).bind (·.dst)=some d→d < N∧RV E w (t d) (a.tmps.getD d undef)) :
    Region.wanted o (yielded ops a.tmps)=r:=by
  unfold a1k at h
  unfold Region.wanted
  split at h
  · rename_i hg;simp [hg,h]
  · rename_i j want hg
    obtain ⟨d,b,h1,h2⟩:=h
    obtain ⟨h4,h5⟩:=hd j want d hg h1
    rcases h2 with ⟨h2,h3⟩|⟨h2,h3⟩
    rotate_left
    · rw [h2] at h5
      obtain ⟨vs,h5,h6⟩:=h5
      obtain rfl:vs= []:=h6
      have h6:a.tmps[d]?=some (.tuple #[]):=by
        have:d < a.tmps.size:=by rw [hN];exact h4
        simpa [Array.getD_eq_getD_getElem?,this] using h5
      simp only [hg,yielded,h1,Option.bind_some,h6,h3]
      cases want <;> rfl
    rw [h2] at h5
    obtain ⟨_,h5,_⟩:=h5
    simp only [List.cons.injEq,and_true] at h5
    have h6:a.tmps[d]?=some (.bool b):=by
      have:d < a.tmps.size:=by rw [hN];exact h4
      simpa [Array.getD_eq_getD_getElem?,this] using h5
    simp only [hg,yielded,h1,Option.bind_some,h6,h3]
    cases b <;> cases want <;> rfl
def looks (ops:Array Oper) (o:Oper):List Tmp:=o.looksAt ops
structure TrOk (c:Ctx) (ops:Array Oper) (t:Nat→AV) (h:Nat→Option Box) (nb:Nat) (tr:Nat→y5) (anc:Nat→Nat→Bool):Prop where
  dst:∀(i:Nat) (o:Oper),ops[i]?=some o→(tr i).dst=o.dst
  step:∀(i:Nat) (o:Oper),ops[i]?=some o→∀it,(tr i).it=some it→a1k ops o (y9 t tr (fun _=>true) i) true∧
    n4 c.P c.G o (a1o (y9 t tr (fun _=>true) i)) (a0n h tr (fun _=>true) i) it
  skip:∀(i:Nat) (o:Oper),ops[i]?=some o→(tr i).it=none→a1k ops o (y9 t tr (fun _=>true) i) false
  cst:∀(i:Nat) (o:Oper),ops[i]?=some o→∀x∈o.op.operands,a0v x=true
  looks:∀(i:Nat) (o:Oper),ops[i]?=some o→∀d∈o.looksAt ops,∀j,j < ops.size→(tr j).dst=some d→i=j∨(j < i∧anc i j=true)∨(i < j∧anc j i=true)
  dst1:∀i j d,i < ops.size→j < ops.size→(tr i).dst=some d→(tr j).dst=some d→i=j
  dstN:∀i d,i < ops.size→(tr i).dst=some d→d < c.N
  boxes:∀i j b,i < ops.size→j < ops.size→i≠j→(tr j).eff.id?=some b→(b∈(tr i).reads∨(tr i).eff.id?=some b)→(j < i∧anc i j=true)∨(i < j∧anc j i=true)
  new:∀i id bx,i < ops.size→(tr i).eff= .new id bx→nb≤id
  new1:∀i j id bx bx',i < ops.size→j < ops.size→(tr i).eff= .new id bx→(tr j).eff= .new id bx'→i=j
  nb0:c.nb0≤nb
  set:∀i id bx,i < ops.size→(tr i).eff= .set id bx→c.ns≤id
  back:∀(i:Nat) (o:Oper),ops[i]?=some o→∀e∈o.after,Region.binds .any e=true→e.on < i
  anc:∀S:Nat→Bool,(∀(i:Nat) (o:Oper),ops[i]?=some o→S i=true→∀e∈o.after,Region.binds .any e=true→S e.on=true)→
    ∀(i:Nat) (o:Oper),ops[i]?=some o→(∀e∈o.after,Region.binds .any e=true→S e.on=true)→∀j,anc i j=true→S j=true
theorem a7c {t:Nat→AV} {tr:Nat→y5} {n:Nat} {i:Nat}:∀{k:Nat},i≤k→y9 t tr (fun j=>decide (j < i)) k n=y9 t tr (fun _=>true) i n
  | 0, h => by obtain rfl : i = 0 := by omega
               rfl
  | k + 1, h => by
    by_cases e:i=k+1
    · subst e;exact a5p fun j hj _=>by simpa using hj
    · have:¬k < i:=by omega
      simp only [y9,this,decide_false,Bool.false_eq_true,false_and,if_false]
      exact a7c (by omega)
theorem a6w {h:Nat→Option Box} {tr:Nat→y5} {b:Nat} {i:Nat}:∀{k:Nat},i≤k→a0n h tr (fun j=>decide (j < i)) k b=a0n h tr (fun _=>true) i b
  | 0, hk => by obtain rfl : i = 0 := by omega
                rfl
  | k + 1, hk => by
    by_cases e:i=k+1
    · subst e;exact a3w fun j hj _=>by simpa using hj
    · have:¬k < i:=by omega
      simp only [a0n,this,decide_false,Bool.false_eq_true,if_false]
      exact a6w (by omega)
def d3s (ops:Array Oper) (S:Nat→Bool):Prop:=
  ∀(i:Nat) (o:Oper),ops[i]?=some o→S i=true→∀e∈o.after,Region.binds .any e=true→S e.on=true
def d93 (nb n:Nat) (tr:Nat→y5) (S:Nat→Bool) (b:Nat):Prop:=nb≤b∧∀j,j < n→S j=true→∀bx,(tr j).eff≠.new b bx
structure Inv (c:Ctx) (ops:Array Oper) (t:Nat→AV) (h:Nat→Option Box) (nb:Nat) (tr:Nat→y5) (S:Nat→Bool) (a:Act) (w:World):Prop where
  closed:d3s ops S
  out:∀i,ops.size≤i→S i=false
  sr:∃E,SR0 c (y9 t tr S ops.size) (a0n h tr S ops.size) (d93 nb ops.size tr S) E a w
theorem b8d {ops:Array Oper} {o:Oper} {d:Tmp} (h:Operand.tmp d∈o.op.operands):d∈o.looksAt ops:=by
  simp only [Oper.looksAt,List.mem_append,List.mem_filterMap]
  exact .inl ⟨.tmp d,by simpa using h,rfl⟩
theorem c06 {ops:Array Oper} {o:Oper} {j:Nat} {want:Bool} {d:Tmp} (hg:o.guard=some (j,want)) (h:(ops[j]?).bind (·.dst)=some d):d∈o.looksAt ops:=by
  simp [Oper.looksAt,hg,h]
theorem Inv.step {c:Ctx} (hc:a0d c) {ops:Array Oper} {t h nb tr anc} (ok:TrOk c ops t h nb tr anc) {S:Nat→Bool} {a:Act} {w:World}
    (I:Inv c ops t h nb tr S a w) {i:Nat} (hi:i < ops.size) (hS:S i=false) (hr:∀o,ops[i]?=some o→∀e∈o.after,Region.binds .any e=true→S e.on=true)
    {Q:Exit→Act→World→Prop} {K:Act→World→Prop} (hK:∀a w,Inv c ops t h nb tr (a1b S i) a w→K a w):wpOp c.P ops Q i K a w:=by
  obtain ⟨o,ho⟩:∃o,ops[i]?=some o:=⟨ops[i],by simp [hi]⟩
  have hro:=hr o ho
  obtain ⟨E,s⟩:=I.sr
  have hanc:=ok.anc S I.closed
  -- what i sees is what it sees in the order of the text
  have hslot:∀d∈o.looksAt ops,y9 t tr S ops.size d=y9 t tr (fun _=>true) i d:=by
    intro d hd
    rw [←a7c (Nat.le_of_lt hi)]
    refine a5p fun j hj hjd=>?_
    rcases ok.looks i o ho d hd j hj hjd with e|⟨h1,h2⟩|⟨h1,h2⟩
    · subst e;simp [hS]
    · simp [h1,hanc i o ho hro j h2]
    · have:¬j < i:=by omega
      simp only [this,decide_false]
      cases hSj:S j with
      | false=>rfl
      | true =>
        have hj':ops[j]?=some ops[j]:=by simp [hj]
        have:=hanc j _ hj' (fun e he hb=>I.closed j _ hj' hSj e he hb) i h2
        rw [this] at hS;cases hS
  have hbox:∀b,(b∈(tr i).reads∨(tr i).eff.id?=some b)→a0n h tr S ops.size b=a0n h tr (fun _=>true) i b:=by
    intro b hb
    rw [←a6w (Nat.le_of_lt hi)]
    refine a3w fun j hj hjb=>?_
    by_cases e:i=j
    · subst e;simp [hS]
    · rcases ok.boxes i j b hi hj e hjb hb with ⟨h1,h2⟩|⟨h1,h2⟩
      · simp [h1,hanc i o ho hro j h2]
      · have:¬j < i:=by omega
        simp only [this,decide_false]
        cases hSj:S j with
        | false=>rfl
        | true =>
          have hj':ops[j]?=some ops[j]:=by simp [hj]
          have:=hanc j _ hj' (fun e he hb=>I.closed j _ hj' hSj e he hb) i h2
          rw [this] at hS;cases hS
  have hops:∀x∈o.op.operands,RV E w (a1o (y9 t tr (fun _=>true) i) x) (a.eval x):=by
    intro x hx
    have h1:=a98 (t:=y9 t tr S ops.size) s.slots x (ok.cst i o ho x hx)
    cases x with
    | tmp d =>
      have:=hslot d (b8d hx)
      simp only [a1o] at h1 ⊢
      rwa [this] at h1
    | _=>exact h1
  have hwant:∀r,a1k ops o (y9 t tr (fun _=>true) i) r→Region.wanted o (yielded ops a.tmps)=r:=by
    intro r hr
    refine a87 (E:=E) (w:=w) s.size hr fun j want d hg hd=>?_
    have hlk:=c06 hg hd
    refine ⟨?_,by rw [←hslot d hlk];exact s.slots d⟩
    have hj:j < ops.size:=by
      rcases Nat.lt_or_ge j ops.size with h|h
      · exact h
      · simp [Array.getElem?_eq_none h] at hd
    have hj':ops[j]?=some ops[j]:=by simp [hj]
    refine ok.dstN j d hj ?_
    rw [ok.dst j _ hj']
    simpa [hj'] using hd
  have hcl:d3s ops (a1b S i):=by
    intro j o' hj hSj e he hb
    by_cases ej:j=i
    · subst ej;rw [ho] at hj;cases hj;simp [a1b,hro e he hb]
    · have:S j=true:=by simpa [a1b,ej] using hSj
      simp [a1b,I.closed j o' hj this e he hb]
  have hout:∀j,ops.size≤j→a1b S i j=false:=by
    intro j hj
    have:¬j=i:=by omega
    simp [a1b,this,I.out j hj]
  have hSi:a1b S i i=true:=by simp [a1b]
  have hSne:∀j,j≠i→a1b S i j=S j:=fun j hj=>by simp [a1b,hj]
  have hlater:∀j b,i < j→j < ops.size→(tr j).eff.id?=some b→(b∈(tr i).reads∨(tr i).eff.id?=some b)→a1b S i j=false:=by
    intro j b h1 h2 h3 h4
    rw [hSne j (by omega)]
    rcases ok.boxes i j b hi h2 (by omega) h3 h4 with ⟨h5,_⟩|⟨_,h6⟩
    · omega
    · cases hSj:S j with
      | false=>rfl
      | true =>
        have hj':ops[j]?=some ops[j]:=by simp [h2]
        have:=hanc j _ hj' (fun e he hb=>I.closed j _ hj' hSj e he hb) i h6
        rw [this] at hS;cases hS
  have hts:∀n,((tr i).dst=some n→y9 t tr (a1b S i) ops.size n=(tr i).val)∧((tr i).dst≠some n→y9 t tr (a1b S i) ops.size n=y9 t tr S ops.size n):=by
    intro n
    refine ⟨fun hd=>b5n hSi hd hi fun j h1 h2 h3=>?_,fun hd=>a5p fun j hj hjd=>?_⟩
    · have:=ok.dst1 i j n hi h2 hd h3;omega
    · exact hSne j fun e=>hd (e ▸ hjd)
  unfold wpOp
  rw [ho];dsimp only
  cases hit:(tr i).it with
  | none =>
    rw [hwant false (ok.skip i o ho hit)]
    simp only [Bool.false_eq_true,if_false]
    refine hK _ _ ⟨hcl,hout,E,?_⟩
    have:=a89.sr (c:=c) (it:=⟨.tup [],.none,[]⟩) (dst:=o.dst) (v:=undef) (F':=d93 nb ops.size tr (a1b S i)) (t':=y9 t tr (a1b S i) ops.size) (h':=a0n h tr (a1b S i) ops.size) s
      (E':=E) (w':=w) ⟨rfl,Below.refl _ _⟩ ⟨[],rfl,rfl⟩ (fun d hd=>ok.dstN i d hi (by rw [ok.dst i o ho];exact hd)) (fun _ _ h=>by cases h)
      (fun n=>by have:=hts n;rw [ok.dst i o ho] at this;simpa [y5.val,hit] using this)
      (fun b=>⟨fun _ h=>(by rcases h with h|h <;> cases h),fun _=>a3w fun j hj hjb=>hSne j fun e=>by subst e;simp [y5.eff,hit,Eff.id?] at hjb⟩)
      (fun b hb=>⟨⟨hb.1,fun j hj hSj=>hb.2 j hj (by simp [a1b,hSj])⟩,fun _ h=>by cases h⟩) (fun _ _ h=>by cases h)
    exact this
  | some it =>
    obtain ⟨h1,h2⟩:=ok.step i o ho it hit
    rw [hwant true h1]
    simp only [if_true]
    have heff:(tr i).eff=it.eff:=by simp [y5.eff,hit]
    have hreads:(tr i).reads=it.reads:=by simp [y5.reads,hit]
    refine .inl (h2 E w a K Q s.env (hc.g w s.below) hops (fun b hb bx hbx=>?_) (fun id bx he=>?_) fun v E' w' hv hE=>?_)
    · refine s.boxes b bx ?_
      rw [hbox b (by rw [heff,hreads];exact hb)];exact hbx
    · refine s.free id ⟨ok.new i id bx hi (by rw [heff];exact he),fun j hj hSj bx' hj'=>?_⟩
      have:=ok.new1 i j id bx bx' hi hj (by rw [heff];exact he) hj'
      subst this;rw [hS] at hSj;cases hSj
    · refine hK _ _ ⟨hcl,hout,E',?_⟩
      refine a89.sr (c:=c) (it:=it) (dst:=o.dst) (v:=v) s hE hv (fun d hd=>ok.dstN i d hi (by rw [ok.dst i o ho];exact hd)) (fun id bx h=>ok.set i id bx hi (by rw [heff];exact h))
        (fun n=>by have:=hts n;rw [ok.dst i o ho] at this;simpa [y5.val,hit] using this)
        (fun b=>⟨fun bx hb=>b4h hSi (by rw [heff];exact hb) hi fun j h3 h4 h5=>hlater j b h3 h4 h5 (.inr (by rw [heff];rcases hb with hb|hb <;> simp [hb,Eff.id?])),
          fun hb=>a3w fun j hj hjb=>hSne j fun e=>hb (by subst e;rw [heff] at hjb;exact hjb)⟩)
        (fun b hb=>⟨⟨hb.1,fun j hj hSj=>hb.2 j hj (by simp [a1b,hSj])⟩,fun bx h=>hb.2 i hi hSi bx (by rw [heff];exact h)⟩)
        (fun id bx h=>Nat.le_trans ok.nb0 (ok.new i id bx hi (by rw [heff];exact h)))
def left (n:Nat) (S:Nat→Bool):Nat:=((List.range n).filter fun i=>!S i).length
theorem c6p {n:Nat} {S:Nat→Bool} {i:Nat} (hi:i < n) (hS:S i=false):left n (a1b S i) < left n S:=by
  unfold left
  have:(List.range n).filter (fun j=>!a1b S i j)=((List.range n).filter fun j=>!S j).filter fun j=>j != i:=by
    rw [List.filter_filter]
    refine List.filter_congr fun j _=>?_
    by_cases e:j=i
    · simp [a1b,e]
    · simp only [a1b,bne,Bool.not_or]
  rw [this]
  have hm:i∈(List.range n).filter fun j=>!S j:=by simp [hi,hS]
  generalize (List.range n).filter (fun j=>!S j)=l at hm ⊢
  clear this
  induction l with
  | nil=>cases hm
  | cons x l ih =>
    by_cases e:x=i
    · subst e
      simp only [List.filter_cons,bne_self_eq_false,Bool.false_eq_true,if_false,List.length_cons]
      have:=List.length_filter_le (fun j=>j != x) l
      omega
    · have hm':i∈l:=by cases hm with
        | head=>exact absurd rfl e
        | tail _ h=>exact h
      have:=ih hm'
      have hx:(x != i)=true:=by simpa using e
      simp only [List.filter_cons,hx,if_true,List.length_cons]
      omega
theorem b61 {ops:Array Oper} {listed:Array Bool} {i:Nat}:i∈Region.ready .any ops listed↔
    i < ops.size∧listed.getD i true=false∧∃o,ops[i]?=some o∧∀e∈o.after,Region.binds .any e=true→listed.getD e.on false=true:=by
  unfold Region.ready
  simp only [List.mem_filter,List.mem_range,Bool.and_eq_true]
  refine and_congr_right fun hi=>?_
  have ho:ops[i]?=some ops[i]:=by simp [hi]
  rw [ho]
  simp only [Option.map_some,Option.getD_some,Array.all_eq_true_iff_forall_mem,Option.some.injEq]
  constructor
  · rintro ⟨a,b⟩
    refine ⟨by simpa using a,_,rfl,fun e he hb=>?_⟩
    have:=b e he
    simpa [hb] using this
  · rintro ⟨a,o,rfl,b⟩
    refine ⟨by simp [a],fun e he=>?_⟩
    cases hb:Region.binds .any e with
    | false=>rfl
    | true=>simp [b e he hb]
theorem d3q {c:Ctx} (hc:a0d c) {ops:Array Oper} {t h nb tr anc} (ok:TrOk c ops t h nb tr anc) {Q:Exit→Act→World→Prop}
    (hQ:∀a w,Inv c ops t h nb tr (fun i=>decide (i < ops.size)) a w→Q .normal a w) :
    ∀(fuel:Nat) (listed:Array Bool) (a:Act) (w:World),listed.size=ops.size→left ops.size (fun i=>listed.getD i false)≤fuel→
      Inv c ops t h nb tr (fun i=>listed.getD i false) a w→wpAny c.P .any ops Q fuel listed a w:=by
  have hend:∀(listed:Array Bool) (a:Act) (w:World),listed.size=ops.size→Inv c ops t h nb tr (fun i=>listed.getD i false) a w→Region.ready .any ops listed= []→Q .normal a w:=by
    intro listed a w hs I hr
    refine hQ a w ?_
    have hall:∀n i,i < n→i < ops.size→listed.getD i false=true:=by
      intro n
      induction n with
      | zero=>intro i h;omega
      | succ n ih =>
        intro i h1 h2
        cases hl:listed.getD i false with
        | true=>rfl
        | false =>
          have ho:ops[i]?=some ops[i]:=by simp [h2]
          have:i∈Region.ready .any ops listed:=by
            refine b61.2 ⟨h2,?_,_,ho,fun e he hb=>?_⟩
            · have:i < listed.size:=by omega
              simpa [Array.getD_eq_getD_getElem?,this] using hl
            · have:=ok.back i _ ho e he hb
              exact ih e.on (by omega) (by omega)
          rw [hr] at this;cases this
    have:(fun i=>listed.getD i false)=fun i=>decide (i < ops.size):=by
      funext i
      by_cases h:i < ops.size
      · simp [h,hall (i+1) i (by omega) h]
      · have:listed[i]?=none:=Array.getElem?_eq_none (by omega)
        simp [h,Array.getD_eq_getD_getElem?,this]
    rw [←this];exact I
  intro fuel
  induction fuel with
  | zero =>
    intro listed a w hs hl I
    have hr:Region.ready .any ops listed= []:=by
      refine List.eq_nil_iff_forall_not_mem.2 fun i hi=>?_
      obtain ⟨h1,h2,_⟩:=b61.1 hi
      have:listed.getD i false=false:=by
        have:i < listed.size:=by omega
        simpa [Array.getD_eq_getD_getElem?,this] using h2
      have:=c6p (S:=fun i=>listed.getD i false) h1 this
      omega
    exact ⟨hr,hend listed a w hs I hr⟩
  | succ fuel ih =>
    intro listed a w hs hl I
    refine ⟨hend listed a w hs I,fun i hi=>?_⟩
    obtain ⟨h1,h2,o,ho,h3⟩:=b61.1 hi
    have hli:i < listed.size:=by omega
    have h2':listed.getD i false=false:=by simpa [Array.getD_eq_getD_getElem?,hli] using h2
    have hset:(fun j=>(listed.setIfInBounds i true).getD j false)=a1b (fun j=>listed.getD j false) i:=by
      funext j
      by_cases e:j=i
      · subst e;simp [a1b,Array.getD_eq_getD_getElem?,hli]
      · have:i≠j:=fun h=>e h.symm
        simp [a1b,e,Array.getD_eq_getD_getElem?,Array.getElem?_setIfInBounds_ne this]
    refine I.step hc ok h1 h2' (fun o' ho' e he hb=>?_) fun a w I'=>?_
    · rw [ho] at ho';cases ho';exact h3 e he hb
    · refine ih _ a w (by simpa using hs) ?_ ?_
      · rw [hset]
        have:=c6p (S:=fun i=>listed.getD i false) h1 h2'
        omega
      · rw [hset];exact I'
theorem SR0.grown {c:Ctx} {t h F E a w} (s:SR0 c t h F E a w) {w':World} (hb:Below w.heap.size w w'):SR0 c t h F E a w':=
  ⟨s.size,s.defers,fun n=>(a3f hb).rv (s.slots n),fun b bx hbx=>(s.boxes b bx hbx).keeps (a3f hb) fun k hk=>hb.block k (s.env.r _ _ hk),s.env.below hb.size,
    s.below.below hb s.below.size,s.own,s.low,s.m,s.free⟩
theorem c5l (w:World) (n:Nat):Below w.heap.size w { w with drawn:=n }:=⟨rfl,rfl,rfl,Nat.le_refl _,fun _ _=>rfl⟩
theorem b3e {c:Ctx} (hc:a0d c) (hm:c.P.follows .mixedOrders=true) {id:Nat} {ops:Array Oper} {st:St} {tr:Nat→y5} {anc:Nat→Nat→Bool} {E:u6} {a:Act} {w:World}
    (s:SR c st E a w) (ok:TrOk c ops st.t st.h st.nb tr anc) {nb':Nat} (hnb:∀i id bx,i < ops.size→(tr i).eff= .new id bx→id < nb') (hnb0:st.nb≤nb') {Q:Exit→Act→World→Prop}
    (hQ:∀E a w,SR c ⟨y9 st.t tr (fun _=>true) ops.size,a0n st.h tr (fun _=>true) ops.size,nb'⟩ E a w→Q .normal a w):(Code.region id ops true).wp c.P Q a w:=by
  refine wp_region_any hm (d3q hc ok (fun a w I=>?_) _ _ _ _ (by simp) ?_ ?_)
  · obtain ⟨E,s⟩:=I.sr
    have e1:y9 st.t tr (fun i=>decide (i < ops.size)) ops.size=y9 st.t tr (fun _=>true) ops.size:=funext fun n=>a7c (Nat.le_refl _)
    have e2:a0n st.h tr (fun i=>decide (i < ops.size)) ops.size=a0n st.h tr (fun _=>true) ops.size:=funext fun n=>a6w (Nat.le_refl _)
    rw [e1,e2] at s
    refine hQ E a w ⟨s.size,s.defers,s.slots,s.boxes,s.env,s.below,s.own,s.low,s.m,fun b hb=>s.free b ⟨?_,fun j hj _ bx h=>?_⟩⟩
    · exact Nat.le_trans hnb0 hb
    · have:=hnb j b bx hj h
      have hb':nb'≤b:=hb
      omega
  · unfold left;exact Nat.le_trans (List.length_filter_le _ _) (by simp)
  · have e0:(fun i=>(Array.replicate ops.size false).getD i false)=fun _=>false:=by
      funext i
      by_cases h:i < ops.size <;> simp [Array.getD_eq_getD_getElem?,h]
    have e1:∀k,y9 st.t tr (fun _=>false) k=st.t:=by
      intro k;funext n
      induction k with
      | zero=>rfl
      | succ k ih=>simp [y9,ih]
    have e2:∀k,a0n st.h tr (fun _=>false) k=st.h:=by
      intro k;funext n
      induction k with
      | zero=>rfl
      | succ k ih=>simp [a0n,ih]
    rw [e0]
    refine ⟨fun _ _ _ h=>(by cases h),fun _ _=>rfl,E,?_⟩
    rw [e1,e2]
    have s:=s.grown (c5l w (w.drawn+1))
    exact ⟨s.size,s.defers,s.slots,s.boxes,s.env,s.below,s.own,s.low,s.m,fun b hb=>s.free b hb.1⟩
-- axioms of b3e
end Go.Ax
end
section
namespace Go.Ax
open Go.RowKit (Below)
def a1y:List i7→Nat→Option (List i7)
  | [], n => match Nat.beq n 0 with
    | true=>some []
    | false=>none
  | x :: xs, n => match Nat.beq n 0 with
    | true=>some (x :: xs)
    | false => match Nat.ble x.size n with
      | true=>a1y xs (n - x.size)
      | false => match x, Nat.beq n 2 with
        | .frac q,true=>some (.int q.den :: xs)
        | _,_=>none
def a3s:List i7→Nat→Option (List i7)
  | [], n => match Nat.beq n 0 with
    | true=>some []
    | false=>none
  | x :: xs, n => match Nat.beq n 0 with
    | true=>some []
    | false => match Nat.ble x.size n with
      | true => match a3s xs (n - x.size) with
        | some r=>some (x :: r)
        | none=>none
      | false => match x, Nat.beq n 2 with
        | .frac q,true=>some [.int q.num]
        | _,_=>none
theorem c8e:∀ls:List i7,a1y ls 0=some ls
  | []=>rfl
  | _ :: _=>rfl
theorem c9o:∀ls:List i7,a3s ls 0=some []
  | []=>rfl
  | _ :: _=>rfl
theorem b9l (x:i7) (xs:List i7) (n:Nat):a1y (x :: xs) (n+1)=match Nat.ble x.size (n+1) with
    | true=>a1y xs (n+1 - x.size)
    | false => match x, Nat.beq (n + 1) 2 with
      | .frac q,true=>some (.int q.den :: xs)
      | _,_=>none:=by
  cases x <;> rfl
theorem c9n (x:i7) (xs:List i7) (n:Nat):a3s (x :: xs) (n+1)=match Nat.ble x.size (n+1) with
    | true => match a3s xs (n + 1 - x.size) with
      | some r=>some (x :: r)
      | none=>none
    | false => match x, Nat.beq (n + 1) 2 with
      | .frac q,true=>some [.int q.num]
      | _,_=>none:=by
  cases x <;> rfl
theorem a96 {E:u6} {w:World}:∀{ls:List i7} {n:Nat} {ls':List i7} {cs:List Value},j7 E w ls cs→a1y ls n=some ls'→j7 E w ls' (cs.drop n)
  | ls, 0, ls', cs, h, e => by
    have:ls=ls':=by simpa [c8e] using e
    subst this;simpa using h
  | [],n+1,ls',cs,h,e=>by rw [show a1y [] (n+1)=none from rfl] at e;cases e
  | x :: xs, n + 1, ls', cs, h, e => by
    obtain ⟨ys,zs,rfl,h1,h2⟩:=h
    have hl:=(i7.R_len h1).1
    rw [b9l] at e
    split at e
    · rename_i hle
      have hle:=Nat.le_of_ble_eq_true hle
      rw [List.drop_append,List.drop_eq_nil_of_le (by omega),List.nil_append,hl]
      exact a96 h2 e
    · split at e
      · have h2':Nat.beq (n+1) 2=true:=by assumption
        have h2':=Nat.eq_of_beq_eq_true h2'
        obtain rfl:n=1:=by omega
        cases e
        obtain ⟨as,bs,rfl,ha,hb⟩:=h1
        have:=a6g.length ha
        refine ⟨bs,zs,?_,hb,h2⟩
        rw [List.append_assoc,List.drop_append,List.drop_eq_nil_of_le (by omega),this];simp
      · cases e
theorem b6c {E:u6} {w:World}:∀{ls:List i7} {n:Nat} {ls':List i7} {cs:List Value},j7 E w ls cs→a3s ls n=some ls'→j7 E w ls' (cs.take n)∧n≤cs.length
  | ls, 0, ls', cs, h, e => by
    have:ls'= []:=by simpa [c9o] using e.symm
    subst this;exact ⟨by simp [j7],Nat.zero_le _⟩
  | [],n+1,ls',cs,h,e=>by rw [show a3s [] (n+1)=none from rfl] at e;cases e
  | x :: xs, n + 1, ls', cs, h, e => by
    obtain ⟨ys,zs,rfl,h1,h2⟩:=h
    have hl:=(i7.R_len h1).1
    rw [c9n] at e
    split at e
    · rename_i hle
      have hle:=Nat.le_of_ble_eq_true hle
      cases ht:a3s xs (n+1 - x.size) with
      | none=>rw [ht] at e;cases e
      | some r =>
        rw [ht] at e;cases e
        obtain ⟨h3,h4⟩:=b6c h2 ht
        refine ⟨⟨ys,zs.take (n+1 - x.size),?_,h1,h3⟩,by simp;omega⟩
        rw [List.take_append,List.take_of_length_le (by omega),hl]
    · split at e
      · have h2':Nat.beq (n+1) 2=true:=by assumption
        have h2':=Nat.eq_of_beq_eq_true h2'
        obtain rfl:n=1:=by omega
        cases e
        obtain ⟨as,bs,rfl,ha,hb⟩:=h1
        have:=a6g.length ha
        refine ⟨⟨as,[],?_,ha,rfl⟩,by simp [this]⟩
        rw [List.append_assoc,List.take_append,List.take_of_length_le (by omega),this];simp
      · cases e
def a7i (ls:List i7) (o n:Nat):Option (List i7):=match a1y ls o with
  | some r=>a3s r n
  | none=>none
theorem b1w {E:u6} {w:World} {ls ls':List i7} {o n:Nat} {cs:List Value} (h:j7 E w ls cs) (e:a7i ls o n=some ls') :
    j7 E w ls' ((cs.drop o).take n)∧o+n≤cs.length∨n=0∧j7 E w ls' []:=by
  unfold a7i at e
  cases hd:a1y ls o with
  | none=>rw [hd] at e;cases e
  | some r =>
    rw [hd] at e
    obtain ⟨h1,h2⟩:=b6c (a96 h hd) e
    by_cases hn:n=0
    · subst hn;right;refine ⟨rfl,?_⟩;simpa using h1
    · left;refine ⟨h1,?_⟩;simp at h2;omega
theorem a6u {E:u6} {w:World}:∀{as bs:List i7} {xs ys:List Value},j7 E w as xs→j7 E w bs ys→j7 E w (as++bs) (xs++ys)
  | [],bs,xs,ys,h,k=>by obtain rfl:xs= []:=h;exact k
  | a :: as, bs, xs, ys, h, k => by
    obtain ⟨us,vs,rfl,h1,h2⟩:=h
    exact ⟨us,vs++ys,by simp,h1,a6u h2 k⟩
def b0t (ls:List i7) (o n:Nat) (new:List i7):Option (List i7):=match a3s ls o,a1y ls (o+n) with
  | some a,some b=>some (a++(new++b))
  | _,_=>none
theorem d64 {E:u6} {w:World} {ls ls' new:List i7} {o n:Nat} {cs ds:List Value} (h:j7 E w ls cs) (hn:j7 E w new ds) (e:b0t ls o n new=some ls') :
    j7 E w ls' (cs.take o++(ds++cs.drop (o+n))):=by
  unfold b0t at e
  cases ht:a3s ls o with
  | none=>rw [ht] at e;cases e
  | some a =>
    cases hd:a1y ls (o+n) with
    | none=>rw [ht,hd] at e;cases e
    | some b =>
      rw [ht,hd] at e;cases e
      exact a6u (b6c h ht).1 (a6u hn (a96 h hd))
def a66:Bool→List i7→Option AV
  | true,ls=>some (.agg ls)
  | false, [x] => match Nat.beq x.size 1 with
    | true=>some (.one x)
    | false=>none
  | false,_=>none
def AV.leaves:AV→Option (List i7)
  | .one x=>some [x]
  | .agg xs=>some xs
  | _=>none
theorem b47 {E:u6} {w:World} {x:AV} {v:Value} {ls:List i7} (h:RV E w x v) (hl:x.leaves=some ls):j7 E w ls v.cells.toList:=by
  cases x with
  | one x =>
    cases hl
    obtain ⟨h1,h2⟩:=h
    have:=(i7.R_len h2).2 v (by simp)
    have hc:v.cells.toList= [v]:=by cases v <;> first|rfl|cases this
    rw [hc]
    exact ⟨[v],[],rfl,h2,rfl⟩
  | agg xs =>
    cases hl
    obtain ⟨cs,rfl,h⟩:=h
    simpa [Value.cells] using h
  | tup _=>cases hl
  | u=>cases hl
theorem b65 {P:Program} {t:TypeId} {d:TypeDesc} (h:P.underlying t=some d) (w:World):(isAgg t).run P w= .ok d.isRow w:=by
  unfold isAgg
  rw [Sem.run_bind,run_underlying h w]
  cases d <;> simp
theorem a5c {P:Program} {w:World} {T:TypeId} {ti:TyI} (ht:tyI P T=some ti) {b o:Nat} {cs:List Value} (hr:w.rangeAt b o cs) (hl:cs.length=ti.size)
    {E:u6} {ls:List i7} (hls:j7 E w ls cs) {x:AV} (hx:a66 ti.agg ls=some x):∃v,(Instr.loadAt T (.pointer (some ⟨b,o,none⟩))).run P w= .ok v w∧RV E w x v:=by
  obtain ⟨i,d,h1,h2,h3,_,h4,_⟩:=a4x ht
  cases ha:ti.agg with
  | true =>
    rw [ha] at hx;cases hx
    refine ⟨.agg cs.toArray,run_loadAt_mid w b o T cs d hr h2 (h4.trans ha) (by simp [h1,h3,hl]),?_⟩
    exact ⟨cs,rfl,hls⟩
  | false =>
    have hag:(isAgg T).run P w= .ok false w:=by rw [b65 h2,h4,ha]
    rw [ha] at hx
    match ls,hls,hx with
    | [l], hls, hx =>
      simp only [a66] at hx
      split at hx
      · rename_i h5
        have h5:=Nat.eq_of_beq_eq_true h5
        cases hx
        obtain ⟨xs,ys,rfl,h6,h7⟩:=hls
        obtain rfl:ys= []:=h7
        have h8:=(i7.R_len h6).1
        rw [h5] at h8
        match xs,h8 with
        | [v], _ =>
          have hv:=hr 0 v rfl
          refine ⟨v,?_,h5,h6⟩
          rw [Nat.add_zero] at hv
          simp [Instr.loadAt,Instr.sureAddr,loadVar,hag,load,Sem.run,hv]
      · cases hx
theorem a7w {P:Program} {w:World} {T:TypeId} {ti:TyI} (ht:tyI P T=some ti) {b o:Nat} {v:Value} {cs:List Value} (hcs:v.cells.toList=cs) (hl:cs.length=ti.size)
    (hth:w.there b o cs.length) (h1:∀c∈cs,c.oneCell'=true):(Instr.storeAt T (.pointer (some ⟨b,o,none⟩)) v).run P w= .ok () (w.setCells b o cs):=by
  obtain ⟨i,d,hi,_,h3,_⟩:=a4x ht
  have:=run_storeCells_cells (P:=P) b o cs 0 w (fun j hj=>by simpa using (hth j hj).1) (fun j hj=>by simpa using (hth j hj).2) h1
  have hs:v.cells.size=i.size:=by rw [h3,←hl,←hcs];simp
  simp only [Nat.add_zero] at this
  simp [Instr.storeAt,Instr.sureAddr,storeVar,sizeOf,typeInfo,hi,hs,hcs,this]
-- axioms of a7w
end Go.Ax
end
section
namespace Go.Ax
open Go.RowKit (Below)
def a1f:Array Value→Nat→List Value→Array Value
  | c,_,[]=>c
  | c,o,v :: r=>a1f (c.setIfInBounds o v) (o+1) r
theorem a30:∀(vs:List Value) (c:Array Value) (o:Nat),(a1f c o vs).size=c.size
  | [],_,_=>rfl
  | v :: r,c,o=>by simp [a1f,a30 r]
theorem a2q:∀(vs:List Value) (c:Array Value) (o j:Nat),(a1f c o vs)[j]?=if o≤j∧j < o+vs.length∧j < c.size then vs[j - o]? else c[j]?
  | [], c, o, j => by
    have:¬(o≤j∧j < o+([]:List Value).length∧j < c.size):=by simp;omega
    simp only [a1f,this,if_false]
  | v :: r, c, o, j => by
    rw [a1f,a2q r]
    simp only [Array.size_setIfInBounds,List.length_cons]
    by_cases h:o≤j∧j < o+(r.length+1)∧j < c.size
    · rw [if_pos h]
      by_cases e:j=o
      · subst e
        rw [if_neg (by omega)]
        simp [h.2.2]
      · rw [if_pos (by omega)]
        obtain ⟨m,hm⟩:∃m,j - o=m+1:=⟨j - o - 1,by omega⟩
        rw [hm,List.getElem?_cons_succ]
        congr 1;omega
    · rw [if_neg h]
      by_cases e:j=o
      · subst e
        have:¬j < c.size:=by omega
        rw [if_neg (by omega)]
        simp [this]
      · rw [if_neg (by omega),Array.getElem?_setIfInBounds_ne (by omega)]
theorem b43 {w:World} {k:Nat} {c:Array Value} {T:TypeId} {fr:Nat×Nat} (h:w.heap[k]?=some (.cells c T fr)) (o:Nat) (v:Value) :
    (w.setCell ⟨k,o,none⟩ v).heap[k]?=some (.cells (c.setIfInBounds o v) T fr):=by
  simp [World.setCell,Array.getElem?_modify,h]
theorem a39:∀(vs:List Value) {w:World} {k:Nat} {c:Array Value} {T:TypeId} {fr:Nat×Nat},w.heap[k]?=some (.cells c T fr)→∀(o:Nat),
    (w.setCells k o vs).heap[k]?=some (.cells (a1f c o vs) T fr)
  | [],_,_,_,_,_,h,_=>h
  | _ :: r,_,_,_,_,_,h,o=>a39 r (b43 h o _) (o+1)
theorem c1j (w:World) (k o:Nat) (v:Value):b0w k w (w.setCell ⟨k,o,none⟩ v):=
  ⟨rfl,rfl,rfl,by simp [World.setCell],fun j _ h=>Go.RowKit.Below.heap_setCell w ⟨k,o,none⟩ v j h⟩
theorem b0w.trans {k:Nat} {a b c:World} (h:b0w k a b) (g:b0w k b c):b0w k a c:=
  ⟨g.os.trans h.os,g.tape.trans h.tape,g.output.trans h.output,Nat.le_trans h.size g.size,fun j hj hk=>(g.block j (Nat.lt_of_lt_of_le hj h.size) hk).trans (h.block j hj hk)⟩
theorem a7h:∀(vs:List Value) (w:World) (k o:Nat),b0w k w (w.setCells k o vs)
  | [],_,_,_=>⟨rfl,rfl,rfl,Nat.le_refl _,fun _ _ _=>rfl⟩
  | _ :: r,w,k,o=>(c1j w k o _).trans (a7h r _ k (o+1))
variable {P:Program} {G:World→Prop}
theorem t6 {o:Oper} {ev:Operand→AV} {H:Nat→Option Box} {x:AV} {reads:List Nat}
    (h:∀(E:u6) (w:World) (a:Act),a3q E w→G w→(∀y∈o.op.operands,RV E w (ev y) (a.eval y))→(∀b∈reads,∀bx,H b=some bx→a6f E w b bx)→
      ∃v,(execOp a.eval o).run P w= .ok (.value v) w∧RV E w x v):n4 P G o ev H { val:=x,reads }:=by
  intro E w a K Q hE hG hops hb _ hK
  obtain ⟨v,h1,h2⟩:=h E w a hE hG hops fun b hb' bx=>hb b (.inl hb') bx
  unfold Oper.wp
  rw [h1]
  exact hK v E w h2 ⟨rfl,Below.refl _ _⟩
theorem c2k {o:Oper} {x:Operand} (ho:o.op= .move x∨o.op= .assign x) (ev:Operand→AV) (H:Nat→Option Box):n4 P G o ev H { val:=ev x }:=by
  refine t6 fun E w a _ _ hops _=>⟨a.eval x,?_,hops x ?_⟩
  · rcases ho with ho|ho <;> (unfold execOp;rw [ho];rfl)
  · rcases ho with ho|ho <;> (rw [ho];simp [Op.operands])
def a59:Bool→AV→AV→AV
  | true,x,_=>x
  | false,_,y=>y
theorem d3l {o:Oper} {c x y:Operand} (ho:o.op= .pick c x y) {ev:Operand→AV} {b:Bool} (hc:ev c= .one (.v (.bool b))) (H:Nat→Option Box) :
    n4 P G o ev H { val:=a59 b (ev x) (ev y) }:=by
  refine t6 fun E w a _ _ hops _=>⟨if b then a.eval x else a.eval y,?_,?_⟩
  · have h1:=hops c (by rw [ho];simp [Op.operands])
    rw [hc] at h1
    obtain ⟨_,h1,_⟩:=h1
    simp only [List.cons.injEq,and_true] at h1
    unfold execOp;rw [ho]
    simp [h1,asBool]
  · cases b
    · exact hops y (by rw [ho];simp [Op.operands])
    · exact hops x (by rw [ho];simp [Op.operands])
theorem a27 (w:World) (o:Obj):Below w.heap.size w (w.alloc o):=(Below.refl _ _).alloc (Nat.le_refl _) _
theorem a56 (w:World) (o:Obj):(w.alloc o).heap[w.heap.size]?=some o:=by
  show (w.heap.push o)[w.heap.size]?=some o
  simp
theorem a5n (w:World) (o:Obj):w.heap.size < (w.alloc o).heap.size:=by
  show w.heap.size < (w.heap.push o).size
  simp
theorem b76 {P:Program} (w:World) (v:Value) (T:TypeId):(newVar T v).run P w= .ok ⟨w.heap.size,0,none⟩ (w.alloc (.cells v.cells T)):=rfl
theorem d4j {E E':u6} {w:World} {id:Nat} {ls:List i7} {cs:List Value} {T:TypeId} (hls:j7 E w ls cs) (hk:a0s E w E' (w.alloc (.cells cs.toArray T))) (hid:E'.ρ id=some w.heap.size) :
    a6f E' (w.alloc (.cells cs.toArray T)) id { sz:=s8 ls,n:=1,g:=fun _=>ls }:=by
  refine .inr ⟨w.heap.size,cs.toArray,T,hid,a56 _ _,Nat.le_of_eq (by simp [(w7 hls).1]),fun i hi=>⟨cs,rfl,hk.leaves hls,fun j v hv=>?_⟩⟩
  obtain rfl:i=0:=by simpa using hi
  simpa using hv
theorem c7g {o:Oper} {ev:Operand→AV} {H:Nat→Option Box} {id:Nat} {ls:List i7} {T:TypeId}
    (h:∀(E:u6) (w:World) (a:Act),a3q E w→(∀y∈o.op.operands,RV E w (ev y) (a.eval y))→
      ∃cs,(execOp a.eval o).run P w= .ok (.value (.pointer (some ⟨w.heap.size,0,none⟩))) (w.alloc (.cells cs.toArray T))∧j7 E w ls cs) :
    n4 P G o ev H { val:=.one (.ptr id (s8 ls) 0 0),eff:=.new id { sz:=s8 ls,n:=1,g:=fun _=>ls } }:=by
  intro E w a K Q hE hG hops hb hid hK
  obtain ⟨cs,h1,h2⟩:=h E w a hE hops
  have hid:=hid id _ rfl
  unfold Oper.wp
  rw [h1]
  have hk:=b6w (a27 w (.cells cs.toArray T)) hid (Nat.le_refl _)
  have hρ:(E.add id w.heap.size).ρ id=some w.heap.size:=by simp [u6.add]
  exact hK _ (E.add id w.heap.size) _ ⟨rfl,_,hρ,by simp⟩ ⟨w.heap.size,Nat.le_refl _,a5n _ _,hid,rfl,a27 _ _,d4j h2 hk hρ⟩
theorem d7a {o:Oper} {T:TypeId} {x:Operand} (ho:o.op= .box T x) {ev:Operand→AV} (H:Nat→Option Box) (id:Nat) {ls:List i7} (hx:(ev x).leaves=some ls) :
    n4 P G o ev H { val:=.one (.ptr id (s8 ls) 0 0),eff:=.new id { sz:=s8 ls,n:=1,g:=fun _=>ls } }:=by
  refine c7g (T:=T) fun E w a _ hops=>⟨(a.eval x).cells.toList,?_,b47 (hops x (by rw [ho];simp [Op.operands])) hx⟩
  unfold execOp;rw [ho]
  simp [Instr.box,b76]
theorem c9f {o:Oper} {T:TypeId} (ho:o.op= .alloc T) {ti:TyI} (ht:tyI P T=some ti) {zs:List Value} (hz:ti.zero=some zs) (h1:zs.all (·.oneCell')=true) (ev:Operand→AV) (H:Nat→Option Box) (id:Nat) :
    n4 P G o ev H { val:=.one (.ptr id (s8 (zs.map i7.v)) 0 0),eff:=.new id { sz:=s8 (zs.map i7.v),n:=1,g:=fun _=>zs.map i7.v } }:=by
  obtain ⟨i,d,hi,_,_,_,_,h2⟩:=a4x ht
  rw [hz] at h2
  cases hzero:i.zero with
  | none=>rw [hzero] at h2;cases h2
  | some z =>
    rw [hzero] at h2;simp only [Option.map_some,Option.some.injEq] at h2
    refine c7g (T:=T) fun E w a _ hops=>⟨zs,?_,a6m zs h1⟩
    unfold execOp;rw [ho]
    simp [Instr.alloc,zeroValue,typeInfo,hi,hzero,b76,h2]
theorem a6f.range {E w b bx} (h:a6f E w b bx) {i:Nat} (hi:i < bx.n):∃k c T es,E.ρ b=some k∧w.heap[k]?=some (.cells c T (0,0))∧bx.n*bx.sz≤c.size∧s8 (bx.g i)=bx.sz∧j7 E w (bx.g i) es∧w.rangeAt k (i*bx.sz) es∧es.length=bx.sz:=by
  rcases h with ⟨_,h0⟩|⟨k,c,T,h1,h2,h3,h4⟩
  · omega
  obtain ⟨es,h5,h6,h7⟩:=h4 i hi
  refine ⟨k,c,T,es,h1,h2,h3,h5,h6,fun j v hv=>?_,(w7 h6).1.trans h5⟩
  rw [cell_of_row w k _ c T (0,0) h2]
  exact h7 j v hv
theorem a5x {w:World} {k o:Nat} {es:List Value} (h:w.rangeAt k o es) (d n:Nat):w.rangeAt k (o+d) ((es.drop d).take n):=by
  intro j v hv
  rw [List.getElem?_take] at hv
  split at hv
  · rw [List.getElem?_drop] at hv
    have:=h _ _ hv
    rwa [←Nat.add_assoc] at this
  · cases hv
theorem d3j {o:Oper} {T:TypeId} {x:Operand} (ho:o.op= .load T x) {ev:Operand→AV} {H:Nat→Option Box} {b sz i off:Nat} (hx:ev x= .one (.ptr b sz i off)) {bx:Box} (hb:H b=some bx) (hi:i < bx.n) (hsz:sz=bx.sz)
    {ti:TyI} (ht:tyI P T=some ti) (hpos:0 < ti.size) {ls:List i7} (hls:a7i (bx.g i) off ti.size=some ls) {y:AV} (hy:a66 ti.agg ls=some y):n4 P G o ev H { val:=y,reads:=[b] }:=by
  refine t6 fun E w a _ _ hops hbx=>?_
  have h1:=hops x (by rw [ho];simp [Op.operands])
  rw [hx] at h1
  obtain ⟨_,k,h2,h3⟩:=h1
  obtain ⟨k',c,Tb,es,h4,h5,h6,h7,h8,h9,h10⟩:=(hbx b (by simp) bx hb).range hi
  rw [h2] at h4;cases h4
  rcases b1w h8 hls with ⟨h11,h12⟩|⟨h11,_⟩
  · subst hsz
    obtain ⟨v,h13,h14⟩:=a5c ht (a5x h9 off ti.size) (by simp;omega) h11 hy
    refine ⟨v,?_,h14⟩
    simp only [List.cons.injEq,and_true] at h3
    unfold execOp;rw [ho];dsimp only;rw [h3]
    simp [h13]
  · omega
theorem c4w {o:Oper} {T:TypeId} {x:Operand} (ho:o.op= .load T x) {ev:Operand→AV} {xs:List i7} (hx:ev x= .one (.pp xs)) (H:Nat→Option Box)
    {ti:TyI} (ht:tyI P T=some ti) (hpos:0 < ti.size) {ls:List i7} (hls:a7i xs 0 ti.size=some ls) {y:AV} (hy:a66 ti.agg ls=some y):n4 P G o ev H { val:=y }:=by
  refine t6 fun E w a _ _ hops hbx=>?_
  have h1:=hops x (by rw [ho];simp [Op.operands])
  rw [hx] at h1
  obtain ⟨_,k,off,es,h2,h3,h4,h5⟩:=h1
  rcases b1w h4 hls with ⟨h11,h12⟩|⟨h11,_⟩
  · have:=a5x h5 0 ti.size
    rw [Nat.add_zero] at this
    obtain ⟨v,h13,h14⟩:=a5c ht this (by simp;omega) (a73 h11) hy
    refine ⟨v,?_,h14⟩
    simp only [List.cons.injEq,and_true] at h2
    unfold execOp;rw [ho];dsimp only;rw [h2]
    simp [h13]
  · omega
def Box.put (bx:Box) (i:Nat) (ls:List i7):Box:={ bx with g:=fun j=>if j=i then ls else bx.g j }
theorem c5n {sz i j d e:Nat} (hd:d < sz) (he:e < sz) (h:i*sz+d=j*sz+e):i=j∧d=e:=by
  have h1:(i*sz+d) / sz=i:=by rw [Nat.mul_comm,Nat.mul_add_div (by omega),Nat.div_eq_of_lt hd];omega
  have h2:(j*sz+e) / sz=j:=by rw [Nat.mul_comm,Nat.mul_add_div (by omega),Nat.div_eq_of_lt he];omega
  have:i=j:=by rw [←h1,←h2,h]
  subst this;exact ⟨rfl,by omega⟩
theorem c0l {o:Oper} {T:TypeId} {x y:Operand} (ho:o.op= .store T x y) {ev:Operand→AV} {H:Nat→Option Box} {b sz i off:Nat} (hx:ev x= .one (.ptr b sz i off)) {bx:Box} (hb:H b=some bx) (hi:i < bx.n) (hsz:sz=bx.sz)
    {ti:TyI} (ht:tyI P T=some ti) {new ls:List i7} (hy:(ev y).leaves=some new) (hnew:s8 new=ti.size) (hls:b0t (bx.g i) off ti.size new=some ls) (hle:off+ti.size≤bx.sz) :
    n4 P G o ev H { val:=.u,eff:=.set b (bx.put i ls) }:=by
  intro E w a K Q hE hG hops hbx _ hK
  have h1:=hops x (by rw [ho];simp [Op.operands])
  have h1':=b47 (hops y (by rw [ho];simp [Op.operands])) hy
  rw [hx] at h1
  obtain ⟨_,k,h2,h3⟩:=h1
  have hB:=hbx b (.inr rfl) bx hb
  obtain ⟨k',c,Tb,es,h4,h5,h6,h7,h8,h9,h10⟩:=hB.range hi
  rw [h2] at h4;cases h4
  have hl:=(w7 h1').1
  have hth:w.there k (i*sz+off) ((a.eval y).cells.toList).length:=by
    intro j hj
    have hin:i*sz+off+j < c.size:=by
      rw [hsz]
      have:(i+1)*bx.sz≤bx.n*bx.sz:=Nat.mul_le_mul_right _ hi
      rw [Nat.add_mul] at this
      omega
    refine ⟨?_,?_⟩
    · rw [cell_of_row w k _ c Tb (0,0) h5];simp [hin]
    · simp [World.frozen?,h5]
  have hrun:=a7w (P:=P) ht (v:=a.eval y) rfl (by omega) hth (fun c hc=>(w7 h1').2 c hc)
  unfold Oper.wp execOp
  rw [ho];dsimp only
  simp only [List.cons.injEq,and_true] at h3
  rw [h3]
  simp only [Sem.run_bind,hrun,Result.andThen_ok,Sem.run_pure]
  have hw:=a7h ((a.eval y).cells.toList) w k (i*sz+off)
  have hk:=b7z hw h2
  refine hK undef E _ trivial ⟨rfl,k,h2,hw,.inr ⟨k,_,Tb,h2,a39 _ h5 _,by rw [a30];exact h6,fun j hj=>?_⟩⟩
  rcases hB with ⟨_,hB0⟩|⟨k',c',T',h12,h13,h14,h15⟩
  · omega
  rw [h2] at h12;cases h12
  rw [h5] at h13;cases h13
  simp only [Box.put]
  by_cases e:j=i
  · subst e
    rw [if_pos rfl]
    have hset:=d64 h8 h1' hls
    have hL:=(w7 hset).1
    refine ⟨_,?_,hk.leaves hset,fun d v hv=>?_⟩
    · show s8 ls=bx.sz
      simp only [List.length_append,List.length_take,List.length_drop] at hL
      omega
    · rw [a2q]
      have hd:d < es.length:=by
        have:=(List.getElem?_eq_some_iff.1 hv).1
        simp only [List.length_append,List.length_take,List.length_drop] at this
        omega
      have hin:j*bx.sz+d < c.size:=by
        have:(j+1)*bx.sz≤bx.n*bx.sz:=Nat.mul_le_mul_right _ hi
        rw [Nat.add_mul] at this
        omega
      rw [List.getElem?_append] at hv
      simp only [List.length_take] at hv
      split at hv
      · rename_i hlt
        rw [if_neg (by rw [hsz];omega)]
        rw [List.getElem?_take,if_pos (by omega)] at hv
        have:=h9 d v hv
        rwa [cell_of_row w k _ c Tb (0,0) h5] at this
      · rename_i hlt
        rw [List.getElem?_append] at hv
        split at hv
        · rename_i hlt2
          rw [if_pos (by rw [hsz];omega)]
          rw [←hv];congr 1;rw [hsz];omega
        · rename_i hlt2
          rw [if_neg (by rw [hsz];omega)]
          rw [List.getElem?_drop] at hv
          have:=h9 _ v hv
          rw [cell_of_row w k _ c Tb (0,0) h5] at this
          rw [←this];congr 1;omega
  · rw [if_neg e]
    obtain ⟨es',h16,h17,h18⟩:=h15 j hj
    refine ⟨es',h16,hk.leaves h17,fun d v hv=>?_⟩
    rw [a2q,if_neg]
    · exact h18 d v hv
    · rintro ⟨g1,g2,g3⟩
      have hd:d < bx.sz:=by
        have:=(List.getElem?_eq_some_iff.1 hv).1
        have:=(w7 h17).1
        omega
      have:j*bx.sz+d=i*bx.sz+(j*bx.sz+d - i*bx.sz):=by rw [hsz] at g1;omega
      have:=c5n hd (by rw [hsz] at g1 g2;omega) this
      exact e this.1
-- axioms of c0l
end Go.Ax
end
