/- Lemmas on the program and its library, part Ax1. -/
import Derived.Deep.MidRow
import Derived.Orders
import Derived.Below
import Derived.OrdersIn
import Derived.RangeFuncIn
import Derived.LoopNIn
import Derived.RangeFuncCalls
set_option linter.unusedVariables false
set_option linter.unusedSimpArgs false
section
namespace Go.Ax
open Go.RowKit (Below)
def val (B:Nat):List Nat→Nat
  | []=>0
  | d :: ds=>d+B*val B ds
inductive Leaf where
  | v (x:Value)
  | u
  | ptr (b sz i o:Nat)
  | own (b sz i n c:Nat)
  | gr (b sz n c:Nat)
  | pp (x:List Leaf)
  | int (z:Int)
  | frac (q:Rat)
  | rint (z:Int)
  | ints (k:IntKind) (l:List Int)
  | nn (k:IntKind) (l:List Int)
  | row (sz n:Nat) (g:Nat→List Leaf)
  | fn (f:Fn) (first captured:List Leaf)
inductive AV where
  | one (x:Leaf)
  | agg (xs:List Leaf)
  | tup (xs:List AV)
  | u
def Leaf.size:Leaf→Nat
  | .int _=>2
  | .rint _=>2
  | .frac _=>4
  | _=>1
def sizes:List Leaf→Nat
  | []=>0
  | l :: ls=>l.size+sizes ls
structure Env where
  ρ:Nat→Option Nat
  M:Nat→Prop
def Env.ok (E:Env) (w:World) (k:Nat):Prop:=k < w.heap.size∧¬E.M k∧∀b,E.ρ b≠some k
def Env.shut (E:Env):Env:={ ρ:=fun _=>none,M:=fun k=>E.M k∨∃b,E.ρ b=some k }
theorem shut_ok {E:Env} {w:World} {k:Nat}:E.shut.ok w k↔E.ok w k:=by
  simp only [Env.ok,Env.shut,not_or,not_exists,ne_eq,reduceCtorEq,not_false_eq_true,implies_true,and_true]
def IntsR (E:Env) (w:World) (k:IntKind) (l:List Int) (x:Value):Prop:=
  (l= []∧x= .slice none 0 0)∨
  ∃b o c,x= .slice (some ⟨b,o,none⟩) l.length c∧E.ok w b∧l.length≤c∧w.rangeAt b o (l.map (Value.int k))
def NnR (E:Env) (w:World) (k:IntKind) (l:List Int) (x:Value):Prop:=
  ∃b o c,x= .slice (some ⟨b,o,none⟩) l.length c∧E.ok w b∧l.length≤c∧w.rangeAt b o (l.map (Value.int k))
def IntR (E:Env) (w:World) (z:Int) (cs:List Value):Prop:=
  (cs= [.int .i64 z,.slice none 0 0]∧-9223372036854775808≤z∧z < 9223372036854775808)∨
  ∃(ds:List Nat) (b o c:Nat),cs= [.int .i64 (if z < 0 then -1 else 1),.slice (some ⟨b,o,none⟩) ds.length c]∧E.ok w b∧ds.length≤c∧
    w.rangeAt b o (ds.map fun d:Nat=>Value.int .u64 (d:Int))∧(∀d∈ds,d < 2 ^ 64)∧ds≠[]∧ds.getLast?≠some 0∧val (2 ^ 64) ds=z.natAbs∧2 ^ 63≤z.natAbs
def RintR (E:Env) (w:World) (z:Int) (cs:List Value):Prop:=
  ∃(ds:List Nat) (x:Value),cs= [.bool (decide (z < 0)),x]∧IntsR E w .i64 (ds.map Int.ofNat) x∧(∀d∈ds,d < 1000000000)∧ds.getLast?≠some 0∧val 1000000000 ds=z.natAbs
def Nil0 (E:Env) (w:World) (cs:List Value):Prop:=cs= [.slice none 0 0]∨∃k o,cs= [.slice (some ⟨k,o,none⟩) 0 0]∧E.ok w k
theorem Nil0.mono {E E':Env} {w w':World} {cs:List Value} (h:Nil0 E w cs) (f:∀k,E.ok w k→E'.ok w' k):Nil0 E' w' cs:=by
  rcases h with h|⟨k,o,h,h1⟩
  · exact .inl h
  · exact .inr ⟨k,o,h,f k h1⟩
mutual
def Leaf.R (E:Env) (w:World):Leaf→List Value→Prop
  | .v x,cs=>cs= [x]∧x.oneCell'=true
  | .u,cs=>∃x,cs= [x]∧x.oneCell'=true
  | .ptr b sz i o,cs=>∃k,E.ρ b=some k∧cs= [.pointer (some ⟨k,i*sz+o,none⟩)]
  | .own b sz i n c,cs=>∃k,E.ρ b=some k∧cs= [.slice (some ⟨k,i*sz,none⟩) n c]
  | .gr b _ n c,cs=>(n=0∧c=0∧Nil0 E w cs)∨∃k,E.ρ b=some k∧cs= [.slice (some ⟨k,0,none⟩) n c]
  | .pp x,cs=>∃b o es,cs= [.pointer (some ⟨b,o,none⟩)]∧E.ok w b∧LeavesR E.shut w x es∧w.rangeAt b o es
  | .int z,cs=>IntR E w z cs
  | .frac q,cs=>∃xs ys,cs=xs++ys∧IntR E w q.num xs∧IntR E w q.den ys
  | .rint z,cs=>RintR E w z cs
  | .ints k l,cs=>∃x,cs= [x]∧IntsR E w k l x
  | .nn k l,cs=>∃x,cs= [x]∧NnR E w k l x
  | .row sz n g,cs=>(n=0∧cs= [.slice none 0 0])∨
      ∃b o c,cs= [.slice (some ⟨b,o,none⟩) n c]∧E.ok w b∧n≤c∧∀i,i < n→∃es:List Value,sizes (g i)=sz∧LeavesR E.shut w (g i) es∧w.rangeAt b (o+i*sz) es
  | .fn f first captured,cs=>∃xs ys:List Value,cs= [.func f xs.toArray ys.toArray]∧LeavesR E w first xs∧LeavesR E w captured ys
def LeavesR (E:Env) (w:World):List Leaf→List Value→Prop
  | [],cs=>cs= []
  | l :: ls,cs=>∃xs ys,cs=xs++ys∧Leaf.R E w l xs∧LeavesR E w ls ys
end
mutual
def RV (E:Env) (w:World):AV→Value→Prop
  | .one x,y=>x.size=1∧Leaf.R E w x [y]
  | .agg xs,y=>∃cs,y= .agg cs.toArray∧LeavesR E w xs cs
  | .tup xs,y=>∃vs,y= .tuple vs.toArray∧RVs E w xs vs
  | .u,_=>True
def RVs (E:Env) (w:World):List AV→List Value→Prop
  | [],vs=>vs= []
  | x :: xs,vs=>∃v r,vs=v :: r∧RV E w x v∧RVs E w xs r
end
structure Box where
  sz:Nat
  n:Nat
  g:Nat→List Leaf
  ro:Bool:=false
def BoxR (E:Env) (w:World) (b:Nat) (bx:Box):Prop:=
  (bx.ro=true∧bx.n=0)∨∃k c T,E.ρ b=some k∧w.heap[k]?=some (.cells c T (0,0))∧bx.n*bx.sz≤c.size∧
    ∀i,i < bx.n→∃es:List Value,sizes (bx.g i)=bx.sz∧LeavesR E w (bx.g i) es∧∀j v,es[j]?=some v→c[i*bx.sz+j]?=some v
structure EnvOk (E:Env) (w:World):Prop where
  m:∀k,E.M k→k < w.heap.size
  r:∀b k,E.ρ b=some k→k < w.heap.size
  inj:∀b b' k,E.ρ b=some k→E.ρ b'=some k→b=b'
/-! ## Lengths -/
theorem IntR.length {E w z cs} (h:IntR E w z cs):cs.length=2:=by
  rcases h with ⟨rfl,_⟩|⟨ds,b,o,c,rfl,_⟩<;> rfl
theorem IntR.one {E w z cs} (h:IntR E w z cs):∀c∈cs,c.oneCell'=true:=by
  rcases h with ⟨rfl,_⟩|⟨ds,b,o,c,rfl,_⟩<;> simp [Value.oneCell']
theorem IntsR.one {E w k l x} (h:IntsR E w k l x):x.oneCell'=true:=by
  rcases h with ⟨_,rfl⟩|⟨b,o,c,rfl,_⟩<;> rfl
theorem NnR.one {E w k l x} (h:NnR E w k l x):x.oneCell'=true:=by
  obtain ⟨b,o,c,rfl,_⟩:=h;rfl
theorem Leaf.R_len {E:Env} {w:World} {l:Leaf} {cs:List Value} (h:l.R E w cs):cs.length=l.size∧∀c∈cs,c.oneCell'=true:=by
  cases l with
  | v x=>obtain ⟨rfl,h⟩:=h;simp [Leaf.size,h]
  | u=>obtain ⟨x,rfl,h⟩:=h;simp [Leaf.size,h]
  | ptr b sz i o=>obtain ⟨k,_,rfl⟩:=h;simp [Leaf.size,Value.oneCell']
  | own b sz i n c=>obtain ⟨k,_,rfl⟩:=h;simp [Leaf.size,Value.oneCell']
  | gr b sz n c=>rcases h with ⟨_,_,rfl|⟨_,_,rfl,_⟩⟩|⟨k,_,rfl⟩<;> simp [Leaf.size,Value.oneCell']
  | pp x=>obtain ⟨b,o,es,rfl,_⟩:=h;simp [Leaf.size,Value.oneCell']
  | int z=>exact ⟨IntR.length h,IntR.one h⟩
  | frac q =>
    obtain ⟨xs,ys,rfl,h1,h2⟩:=h
    refine ⟨by simp [Leaf.size,IntR.length h1,IntR.length h2],fun c hc=>?_⟩
    rcases List.mem_append.1 hc with hc|hc
    · exact IntR.one h1 c hc
    · exact IntR.one h2 c hc
  | rint z =>
    obtain ⟨ds,x,rfl,h1,_⟩:=h
    exact ⟨rfl,by simpa [Value.oneCell'] using IntsR.one h1⟩
  | ints k l=>obtain ⟨x,rfl,h1⟩:=h;exact ⟨rfl,by simpa using IntsR.one h1⟩
  | nn k l=>obtain ⟨x,rfl,h1⟩:=h;exact ⟨rfl,by simpa using NnR.one h1⟩
  | row sz n g=>rcases h with ⟨_,rfl⟩|⟨b,o,c,rfl,_⟩<;> simp [Leaf.size,Value.oneCell']
  | fn f a b=>obtain ⟨xs,ys,rfl,_⟩:=h;simp [Leaf.size,Value.oneCell']
theorem LeavesR_len {E:Env} {w:World}:∀{ls:List Leaf} {cs:List Value},LeavesR E w ls cs→cs.length=sizes ls∧∀c∈cs,c.oneCell'=true
  | [],cs,h=>by obtain rfl:cs= []:=h;simp [sizes]
  | l :: ls, cs, h => by
    obtain ⟨xs,ys,rfl,h1,h2⟩:=h
    have a:=Leaf.R_len h1
    have b:=LeavesR_len h2
    refine ⟨by simp [sizes,a.1,b.1],fun c hc=>?_⟩
    rcases List.mem_append.1 hc with hc|hc
    · exact a.2 c hc
    · exact b.2 c hc
/-! ## Keeping -/
structure Keeps (E:Env) (w:World) (E':Env) (w':World):Prop where
  ρ:∀b k,E.ρ b=some k→E'.ρ b=some k
  ok:∀k,E.ok w k→E'.ok w' k
  heap:∀k,E.ok w k→w'.heap[k]?=w.heap[k]?
theorem Keeps.shut {E w E' w'} (h:Keeps E w E' w'):Keeps E.shut w E'.shut w':=
  ⟨(fun _ _ h=>(by cases h)),fun _ hk=>shut_ok.2 (h.ok _ (shut_ok.1 hk)),fun _ hk=>h.heap _ (shut_ok.1 hk)⟩
theorem Keeps.range {E w E' w'} (h:Keeps E w E' w') {b o:Nat} {cs:List Value} (hb:E.ok w b) (hr:w.rangeAt b o cs):w'.rangeAt b o cs:=
  fun j v hv=>(World.cell?_of_block (w:=w) (h.heap b hb)).trans (hr j v hv)
theorem Keeps.ints {E w E' w'} (h:Keeps E w E' w') {k:IntKind} {l:List Int} {x:Value} (hx:IntsR E w k l x):IntsR E' w' k l x:=by
  rcases hx with hx|⟨b,o,c,rfl,h1,h2,h3⟩
  · exact .inl hx
  · exact .inr ⟨b,o,c,rfl,h.ok b h1,h2,h.range h1 h3⟩
theorem Keeps.nn {E w E' w'} (h:Keeps E w E' w') {k:IntKind} {l:List Int} {x:Value} (hx:NnR E w k l x):NnR E' w' k l x:=by
  obtain ⟨b,o,c,rfl,h1,h2,h3⟩:=hx
  exact ⟨b,o,c,rfl,h.ok b h1,h2,h.range h1 h3⟩
theorem Keeps.int {E w E' w'} (h:Keeps E w E' w') {z:Int} {cs:List Value} (hx:IntR E w z cs):IntR E' w' z cs:=by
  rcases hx with hx|⟨ds,b,o,c,rfl,h1,h2,h3,h4⟩
  · exact .inl hx
  · exact .inr ⟨ds,b,o,c,rfl,h.ok b h1,h2,h.range h1 h3,h4⟩
mutual
theorem Keeps.leaf {E w E' w'} (h:Keeps E w E' w'):∀{l:Leaf} {cs:List Value},l.R E w cs→l.R E' w' cs
  | .v _,_,hx=>hx
  | .u,_,hx=>hx
  | .ptr _ _ _ _,_,hx=>by obtain ⟨k,a,b⟩:=hx;exact ⟨k,h.ρ _ _ a,b⟩
  | .own _ _ _ _ _,_,hx=>by obtain ⟨k,a,b⟩:=hx;exact ⟨k,h.ρ _ _ a,b⟩
  | .gr _ _ _ _, _, hx => by
    rcases hx with hx|⟨k,a,b⟩
    · exact .inl ⟨hx.1,hx.2.1,hx.2.2.mono h.ok⟩
    · exact .inr ⟨k,h.ρ _ _ a,b⟩
  | .pp x,_,hx=>by obtain ⟨b,o,es,a,c,d,e⟩:=hx;exact ⟨b,o,es,a,h.ok b c,Keeps.leaves h.shut d,h.range c e⟩
  | .int z,_,hx=>h.int (z:=z) hx
  | .frac q,_,hx=>by obtain ⟨xs,ys,a,b,c⟩:=hx;exact ⟨xs,ys,a,h.int b,h.int c⟩
  | .rint z,_,hx=>by obtain ⟨ds,x,a,b,c⟩:=hx;exact ⟨ds,x,a,h.ints b,c⟩
  | .ints k l,_,hx=>by obtain ⟨x,a,b⟩:=hx;exact ⟨x,a,h.ints b⟩
  | .nn k l,_,hx=>by obtain ⟨x,a,b⟩:=hx;exact ⟨x,a,h.nn b⟩
  | .row sz n g, _, hx => by
    rcases hx with hx|⟨b,o,c,a,hb,hn,hg⟩
    · exact .inl hx
    · refine .inr ⟨b,o,c,a,h.ok b hb,hn,fun i hi=>?_⟩
      obtain ⟨es,h0,h1,h2⟩:=hg i hi
      exact ⟨es,h0,Keeps.leaves h.shut h1,h.range hb h2⟩
  | .fn f a b,_,hx=>by obtain ⟨xs,ys,e,h1,h2⟩:=hx;exact ⟨xs,ys,e,Keeps.leaves h h1,Keeps.leaves h h2⟩
theorem Keeps.leaves {E w E' w'} (h:Keeps E w E' w'):∀{ls:List Leaf} {cs:List Value},LeavesR E w ls cs→LeavesR E' w' ls cs
  | [],_,hx=>hx
  | _ :: _,_,hx=>by obtain ⟨xs,ys,a,b,c⟩:=hx;exact ⟨xs,ys,a,Keeps.leaf h b,Keeps.leaves h c⟩
end
mutual
theorem Keeps.rv {E w E' w'} (h:Keeps E w E' w'):∀{x:AV} {v:Value},RV E w x v→RV E' w' x v
  | .one _,_,hx=>⟨hx.1,h.leaf hx.2⟩
  | .agg _,_,hx=>by obtain ⟨cs,a,b⟩:=hx;exact ⟨cs,a,h.leaves b⟩
  | .tup _,_,hx=>by obtain ⟨vs,a,b⟩:=hx;exact ⟨vs,a,Keeps.rvs h b⟩
  | .u,_,_=>trivial
theorem Keeps.rvs {E w E' w'} (h:Keeps E w E' w'):∀{xs:List AV} {vs:List Value},RVs E w xs vs→RVs E' w' xs vs
  | [],_,hx=>hx
  | _ :: _,_,hx=>by obtain ⟨v,r,a,b,c⟩:=hx;exact ⟨v,r,a,Keeps.rv h b,Keeps.rvs h c⟩
end
theorem Keeps.refl (E:Env) (w:World):Keeps E w E w:=⟨fun _ _ h=>h,fun _ h=>h,fun _ _=>rfl⟩
theorem Keeps.trans {E w E' w' E'' w''} (h:Keeps E w E' w') (k:Keeps E' w' E'' w''):Keeps E w E'' w'':=
  ⟨fun _ _ a=>k.ρ _ _ (h.ρ _ _ a),fun _ a=>k.ok _ (h.ok _ a),fun j a=>(k.heap j (h.ok _ a)).trans (h.heap j a)⟩
theorem keeps_below {E:Env} {w w':World} (hb:Below w.heap.size w w'):Keeps E w E w':=
  ⟨fun _ _ h=>h,fun _ h=>⟨Nat.lt_of_lt_of_le h.1 hb.size,h.2⟩,fun k h=>hb.block k h.1⟩
def Env.add (E:Env) (id k:Nat):Env:={ E with ρ:=fun b=>if b=id then some k else E.ρ b }
theorem keeps_add {E:Env} {w w':World} (hb:Below w.heap.size w w') {id k:Nat} (hid:E.ρ id=none) (hk:w.heap.size≤k):Keeps E w (E.add id k) w':=by
  refine ⟨fun b j h=>?_,fun j h=>⟨Nat.lt_of_lt_of_le h.1 hb.size,h.2.1,fun b=>?_⟩,fun j h=>hb.block j h.1⟩
  · by_cases e:b=id
    · subst e;rw [hid] at h;cases h
    · simpa [Env.add,e] using h
  · by_cases e:b=id
    · have:=h.1;simp [Env.add,e];omega
    · simpa [Env.add,e] using h.2.2 b
structure Wrote (k:Nat) (w w':World):Prop where
  os:w'.os=w.os
  tape:w'.tape=w.tape
  output:w'.output=w.output
  size:w.heap.size≤w'.heap.size
  block:∀j,j < w.heap.size→j≠k→w'.heap[j]?=w.heap[j]?
theorem keeps_wrote {E:Env} {w w':World} {id k:Nat} (hw:Wrote k w w') (hid:E.ρ id=some k):Keeps E w E w':=
  ⟨fun _ _ h=>h,fun _ h=>⟨Nat.lt_of_lt_of_le h.1 hw.size,h.2⟩,fun j h=>hw.block j h.1 (fun e=>h.2.2 id (e ▸ hid))⟩
theorem EnvOk.below {E:Env} {w w':World} (h:EnvOk E w) (hb:w.heap.size≤w'.heap.size):EnvOk E w':=
  ⟨fun k hk=>Nat.lt_of_lt_of_le (h.m k hk) hb,fun b k hk=>Nat.lt_of_lt_of_le (h.r b k hk) hb,h.inj⟩
theorem EnvOk.add {E:Env} {w w':World} (h:EnvOk E w) (hb:w.heap.size≤w'.heap.size) {id k:Nat} (hk:w.heap.size≤k) (hk':k < w'.heap.size):EnvOk (E.add id k) w':=by
  refine ⟨fun j hj=>Nat.lt_of_lt_of_le (h.m j hj) hb,fun b j hj=>?_,fun b b' j hj hj'=>?_⟩
  · by_cases e:b=id
    · simp [Env.add,e] at hj;omega
    · simp [Env.add,e] at hj;exact Nat.lt_of_lt_of_le (h.r b j hj) hb
  · by_cases e:b=id <;> by_cases e':b'=id
    · rw [e,e']
    · simp [Env.add,e] at hj;simp [Env.add,e'] at hj';have:=h.r _ _ hj';omega
    · simp [Env.add,e] at hj;simp [Env.add,e'] at hj';have:=h.r _ _ hj;omega
    · simp [Env.add,e] at hj;simp [Env.add,e'] at hj';exact h.inj _ _ _ hj hj'
theorem BoxR.keeps {E w E' w' b bx} (h:BoxR E w b bx) (hk:Keeps E w E' w') (hb:∀k,E.ρ b=some k→w'.heap[k]?=w.heap[k]?):BoxR E' w' b bx:=by
  rcases h with h|⟨k,c,T,h1,h2,h3,h4⟩
  · exact .inl h
  refine .inr ⟨k,c,T,hk.ρ _ _ h1,(hb k h1).trans h2,h3,fun i hi=>?_⟩
  obtain ⟨es,a,b,c⟩:=h4 i hi
  exact ⟨es,a,hk.leaves b,c⟩
theorem ints_unshut {E w k l x} (h:IntsR (Env.shut E) w k l x):IntsR E w k l x:=by
  rcases h with h|⟨b,o,c,h1,h2,h3⟩
  · exact .inl h
  · exact .inr ⟨b,o,c,h1,shut_ok.1 h2,h3⟩
theorem int_unshut {E w z cs} (h:IntR (Env.shut E) w z cs):IntR E w z cs:=by
  rcases h with h|⟨ds,b,o,c,h1,h2,h3⟩
  · exact .inl h
  · exact .inr ⟨ds,b,o,c,h1,shut_ok.1 h2,h3⟩
mutual
theorem unshut {w:World}:∀{l:Leaf} {E:Env} {cs:List Value},l.R E.shut w cs→l.R E w cs
  | .v _,_,_,hx=>hx
  | .u,_,_,hx=>hx
  | .ptr _ _ _ _,_,_,hx=>by obtain ⟨k,a,b⟩:=hx;cases a
  | .own _ _ _ _ _,_,_,hx=>by obtain ⟨k,a,b⟩:=hx;cases a
  | .gr _ _ _ _, _, _, hx => by
    rcases hx with hx|⟨k,a,b⟩
    · exact .inl ⟨hx.1,hx.2.1,hx.2.2.mono fun _ hk=>shut_ok.1 hk⟩
    · cases a
  | .pp x,_,_,hx=>by obtain ⟨b,o,es,a,c,d,e⟩:=hx;exact ⟨b,o,es,a,shut_ok.1 c,unshutl d,e⟩
  | .int z,_,_,hx=>int_unshut (z:=z) hx
  | .frac q,_,_,hx=>by obtain ⟨xs,ys,a,b,c⟩:=hx;exact ⟨xs,ys,a,int_unshut b,int_unshut c⟩
  | .rint z,_,_,hx=>by obtain ⟨ds,x,a,b,c⟩:=hx;exact ⟨ds,x,a,ints_unshut b,c⟩
  | .ints k l,_,_,hx=>by obtain ⟨x,a,b⟩:=hx;exact ⟨x,a,ints_unshut b⟩
  | .nn k l,_,_,hx=>by obtain ⟨x,a,b,o,c,h1,h2,h3⟩:=hx;exact ⟨x,a,b,o,c,h1,shut_ok.1 h2,h3⟩
  | .row sz m g, _, _, hx => by
    rcases hx with hx|⟨b,o,c,a,hb,hn,hg⟩
    · exact .inl hx
    · refine .inr ⟨b,o,c,a,shut_ok.1 hb,hn,fun i hi=>?_⟩
      obtain ⟨es,h0,h1,h2⟩:=hg i hi
      exact ⟨es,h0,unshutl h1,h2⟩
  | .fn f a b,_,_,hx=>by obtain ⟨xs,ys,e,h1,h2⟩:=hx;exact ⟨xs,ys,e,unshutl h1,unshutl h2⟩
theorem unshutl {w:World}:∀{ls:List Leaf} {E:Env} {cs:List Value},LeavesR E.shut w ls cs→LeavesR E w ls cs
  | [],_,_,hx=>hx
  | _ :: _,_,_,hx=>by obtain ⟨xs,ys,a,b,c⟩:=hx;exact ⟨xs,ys,a,unshut b,unshutl c⟩
end
-- axioms of unshutl
end Go.Ax
end
section
namespace Go.Ax
open Go.RowKit (Below)
def WF (ro:Option Nat):Fence:={ fn:=fun _=>True,depth:=none,alive:=false,round:=ro }
def ndB (o:Oper):Bool:=match o.op with
  | .defer _=>false
  | _=>true
theorem ndB_spec {o:Oper} (h:ndB o=true):∀c,o.op≠.defer c:=fun c e=>by
  unfold ndB at h
  rw [e] at h
  cases h
theorem wpIn_open {o:Oper} {nn:Nat} {ro:Option Nat} {P:Program} {a:Act} {w:World} {K:Act→World→Prop} {Q:Exit→Act→World→Prop} (hd:∀c,o.op≠.defer c)
    (h:o.uponIn (WF ro) nn P a K Q ((execOp a.eval o).run P w)):o.wpIn (WF ro) nn P a w K Q:=
  ⟨fun _ _=>trivial,by rw [Oper.semAt_eq _ _ _ hd];exact h⟩
theorem callsIn_all {ro:Option Nat} {nn:Nat} {P:Program} {f:FuncId} {args:Array Value} {w:World} {R:Ending→World→Prop} (h:Calls P f args w R):CallsIn (WF ro) nn P f args w R:=by
  cases ro with
  | none=>exact callsIn_wide.2 h
  | some l=>exact CallsIn.inRound l (callsIn_wide.2 h)
inductive Eff where
  | none
  | new (id:Nat) (bx:Box)
  | set (id:Nat) (bx:Box)
structure Item where
  val:AV
  eff:Eff:=.none
  reads:List Nat:=[]
def Eff.id?:Eff→Option Nat
  | .none=>Option.none
  | .new id _=>some id
  | .set id _=>some id
def EffR (it:Item) (E:Env) (w:World) (E':Env) (w':World):Prop:=
  match it.eff with
  | .none=>E'=E∧Below w.heap.size w w'
  | .new id bx=>∃k,w.heap.size≤k∧k < w'.heap.size∧E.ρ id=Option.none∧E'=E.add id k∧Below w.heap.size w w'∧BoxR E' w' id bx
  | .set id bx=>E'=E∧∃k,E.ρ id=some k∧Wrote k w w'∧BoxR E' w' id bx
theorem EffR.keeps {it E w E' w'} (h:EffR it E w E' w'):Keeps E w E' w':=by
  unfold EffR at h
  split at h
  · obtain ⟨rfl,hb⟩:=h;exact keeps_below hb
  · obtain ⟨k,h1,h2,h3,rfl,h4,h5⟩:=h;exact keeps_add h4 h3 h1
  · obtain ⟨rfl,k,h1,h2,h3⟩:=h;exact keeps_wrote h2 h1
theorem EffR.env {it E w E' w'} (h:EffR it E w E' w') (ho:EnvOk E w):EnvOk E' w':=by
  unfold EffR at h
  split at h
  · obtain ⟨rfl,hb⟩:=h;exact ho.below hb.size
  · obtain ⟨k,h1,h2,h3,rfl,h4,h5⟩:=h;exact ho.add h4.size h1 h2
  · obtain ⟨rfl,k,h1,h2,h3⟩:=h;exact ho.below h2.size
section
variable (P:Program) (G:World→Prop)
def StepSound (o:Oper) (ev:Operand→AV) (H:Nat→Option Box) (it:Item):Prop:=
  ∀(nn:Nat) (ro:Option Nat) (E:Env) (w:World) (a:Act) (K:Act→World→Prop) (Q:Exit→Act→World→Prop),(∀c,o.op≠.defer c)→EnvOk E w→G w→
    (∀x∈o.op.operands,RV E w (ev x) (a.eval x))→
    (∀b,b∈it.reads∨it.eff.id?=some b→∀bx,H b=some bx→BoxR E w b bx)→
    (∀id bx,it.eff= .new id bx→E.ρ id=none)→
    (∀v E' w',RV E' w' it.val v→EffR it E w E' w'→K (a.put o.dst v) w')→o.wpIn (WF ro) nn P a w K Q
end
/-! ## The abstract state, as a function of the set of operations that have been carried out -/
structure Done where
  dst:Option Tmp
  it:Option Item
def Done.val (d:Done):AV:=match d.it with|some i=>i.val|none=>.tup []
def Done.eff (d:Done):Eff:=match d.it with|some i=>i.eff|none=>.none
def Done.reads (d:Done):List Nat:=match d.it with|some i=>i.reads|none=> []
def slotsAt (t:Nat→AV) (tr:Nat→Done) (S:Nat→Bool):Nat→Nat→AV
  | 0,n=>t n
  | k+1,n=>if S k=true∧(tr k).dst=some n then (tr k).val else slotsAt t tr S k n
def boxesAt (h:Nat→Option Box) (tr:Nat→Done) (S:Nat→Bool):Nat→Nat→Option Box
  | 0,b=>h b
  | k+1,b=>if S k=true then (match (tr k).eff with
      | .new id bx=>if id=b then some bx else boxesAt h tr S k b
      | .set id bx=>if id=b then some bx else boxesAt h tr S k b
      | .none=>boxesAt h tr S k b) else boxesAt h tr S k b
theorem slotsAt_congr {t:Nat→AV} {tr:Nat→Done} {S S':Nat→Bool} {n:Nat}:∀{k:Nat},(∀j,j < k→(tr j).dst=some n→S j=S' j)→slotsAt t tr S k n=slotsAt t tr S' k n
  | 0,_=>rfl
  | k + 1, h => by
    have ih:=slotsAt_congr (t:=t) (k:=k) (fun j hj hd=>h j (Nat.lt_succ_of_lt hj) hd)
    simp only [slotsAt]
    by_cases hd:(tr k).dst=some n
    · rw [h k (Nat.lt_succ_self k) hd,ih]
    · simp [hd,ih]
theorem boxesAt_congr {h:Nat→Option Box} {tr:Nat→Done} {S S':Nat→Bool} {b:Nat}:∀{k:Nat},(∀j,j < k→(tr j).eff.id?=some b→S j=S' j)→boxesAt h tr S k b=boxesAt h tr S' k b
  | 0,_=>rfl
  | k + 1, hh => by
    have ih:=boxesAt_congr (h:=h) (k:=k) (fun j hj hd=>hh j (Nat.lt_succ_of_lt hj) hd)
    have hk:=hh k (Nat.lt_succ_self k)
    simp only [boxesAt]
    cases he:(tr k).eff with
    | none=>simp [ih]
    | new id bx =>
      by_cases e:id=b
      · rw [hk (by simp [he,Eff.id?,e]),ih]
      · simp [e,ih]
    | set id bx =>
      by_cases e:id=b
      · rw [hk (by simp [he,Eff.id?,e]),ih]
      · simp [e,ih]
theorem slotsAt_last {t:Nat→AV} {tr:Nat→Done} {S:Nat→Bool} {n j:Nat} (hS:S j=true) (hj:(tr j).dst=some n) :
    ∀{k:Nat},j < k→(∀i,j < i→i < k→(tr i).dst=some n→S i=false)→slotsAt t tr S k n=(tr j).val
  | 0,h,_=>absurd h (by omega)
  | k + 1, hlt, h => by
    simp only [slotsAt]
    by_cases e:k=j
    · subst e;simp [hS,hj]
    · have:¬(S k=true∧(tr k).dst=some n):=fun ⟨a,b⟩=>by have:=h k (by omega) (by omega) b;rw [this] at a;cases a
      rw [if_neg this]
      exact slotsAt_last hS hj (by omega) (fun i h1 h2=>h i h1 (by omega))
theorem boxesAt_last {h:Nat→Option Box} {tr:Nat→Done} {S:Nat→Bool} {b j:Nat} {bx:Box} (hS:S j=true) (hj:(tr j).eff= .new b bx∨(tr j).eff= .set b bx) :
    ∀{k:Nat},j < k→(∀i,j < i→i < k→(tr i).eff.id?=some b→S i=false)→boxesAt h tr S k b=some bx
  | 0,hlt,_=>absurd hlt (by omega)
  | k + 1, hlt, hh => by
    by_cases e:k=j
    · subst e
      rcases hj with hj|hj <;> simp [boxesAt,hS,hj]
    · have ih:=boxesAt_last (h:=h) hS hj (k:=k) (by omega) (fun i h1 h2=>hh i h1 (by omega))
      have hk:=hh k (by omega) (by omega)
      simp only [boxesAt]
      split
      · rename_i hSk
        split
        · rename_i id bx' he
          by_cases e':id=b
          · have:=hk (by simp [he,Eff.id?,e']);rw [this] at hSk;cases hSk
          · simp [e',ih]
        · rename_i id bx' he
          by_cases e':id=b
          · have:=hk (by simp [he,Eff.id?,e']);rw [this] at hSk;cases hSk
          · simp [e',ih]
        · exact ih
      · exact ih
def setAdd (S:Nat→Bool) (j:Nat):Nat→Bool:=fun i=>i == j || S i
end Go.Ax
end
section
namespace Go.Ax
/-! ## Types -/
inductive TyK where
  | struct (offs:List (Nat×Nat×Bool))
  | array (n e sz:Nat)
  | slice (e sz:Nat)
  | int (k:IntKind)
  | string
  | bool
  | other
section
variable (P:Program)
def flatFs (F:TypeId→Option (List TyK)):List Field→Nat→Option (List TyK)
  | [],_=>some []
  | f :: r, off => match F f.type with
    | some ks => match f.name != "_" && f.offset == off && Nat.ble 1 ks.length && ks.length == P.cellsOf f.type with
      | true => match flatFs F r (off + ks.length) with
        | some l=>some (ks++l)
        | none=>none
      | false=>none
    | none=>none
def flatK:Nat→TypeId→Option (List TyK)
  | 0,_=>none
  | d + 1, t => match P.underlying t with
    | some (.int k)=>some [.int k]
    | some .string=>some [.string]
    | some .bool=>some [.bool]
    | some (.array n e) => match flatK d e with
      | some ks => match Nat.ble 1 ks.length && ks.length == P.cellsOf e with
        | true=>some (List.replicate n ks).flatten
        | false=>none
      | none=>none
    | some (.struct fs) => match P.stoodInHeld t with
      | true=>none
      | false=>flatFs P (flatK d) fs.toList 0
    | _=>none
end
structure TyI where
  size:Nat
  bytes:Nat
  agg:Bool
  kind:TyK
  zero:Option (List Value)
  flat:Option (List TyK)
def tyI (P:Program) (t:TypeId):Option TyI:=
  match P.info? t,P.underlying t with
  | some i,some d=>some {
      size:=i.size,bytes:=i.bytes,agg:=d.isRow
      kind:=match d with
        | .struct fs=>.struct (fs.toList.map fun f=>(f.offset,P.cellsOf f.type,((P.underlying f.type).map (·.isRow)).getD false))
        | .array n e=>.array n e (P.cellsOf e)
        | .slice e=>.slice e (P.cellsOf e)
        | .int k=>.int k
        | .string=>.string
        | .bool=>.bool
        | _=>.other
      zero:=i.zero.map fun z=>z.cells.toList
      flat:=match P.eqGuardType P.depth t with
        | true=>none
        | false=>flatK P 8 t }
  | _,_=>none
theorem tyI_spec {P:Program} {t:TypeId} {ti:TyI} (h:tyI P t=some ti):∃i d,P.info? t=some i∧P.underlying t=some d∧i.size=ti.size∧i.bytes=ti.bytes∧d.isRow=ti.agg∧ti.zero=i.zero.map (fun z=>z.cells.toList):=by
  unfold tyI at h
  split at h
  · rename_i i d h1 h2
    cases h
    exact ⟨i,d,h1,h2,rfl,rfl,rfl,rfl⟩
  · cases h
def TtOk (P:Program) (tt:TypeId→Option TyI):Prop:=∀t ti,tt t=some ti→tyI P t=some ti
end Go.Ax
end
section
namespace Go.Ax
open Go.RowKit (Below)
structure BelowX (W:Nat→Prop) (B:Nat) (w w':World):Prop where
  os:w'.os=w.os
  tape:w'.tape=w.tape
  output:w'.output=w.output
  size:w.heap.size≤w'.heap.size
  block:∀k,k < B→¬W k→w'.heap[k]?=w.heap[k]?
theorem BelowX.refl {W:Nat→Prop} {B:Nat} (w:World):BelowX W B w w:=⟨rfl,rfl,rfl,Nat.le_refl _,fun _ _ _=>rfl⟩
theorem BelowX.below {W:Nat→Prop} {B:Nat} {a b c:World} (h:BelowX W B a b) (k:Below b.heap.size b c) (hB:B≤b.heap.size):BelowX W B a c:=
  ⟨k.os.trans h.os,k.tape.trans h.tape,k.output.trans h.output,Nat.le_trans h.size k.size,fun i hi hw=>(k.block i (Nat.lt_of_lt_of_le hi hB)).trans (h.block i hi hw)⟩
theorem BelowX.plain {B:Nat} {w w':World} (h:BelowX (fun _=>False) B w w'):Below B w w':=⟨h.os,h.tape,h.output,h.size,fun k hk=>h.block k hk id⟩
structure Ctx where
  P:Program
  tt:TypeId→Option TyI
  G:World→Prop
  N:Nat
  w0:World
  E0:Env
  nb0:Nat
  W:Nat→Prop
  ns:Nat
  defs:List Deferred
structure CtxOk (c:Ctx):Prop where
  tt:TtOk c.P c.tt
  g:∀w,BelowX c.W c.w0.heap.size c.w0 w→c.G w
  e0:∀b,c.nb0≤b→c.E0.ρ b=none
  ns:c.ns≤c.nb0
  m:∀k,c.E0.M k→k < c.w0.heap.size
  r0:∀b k,c.E0.ρ b=some k→k < c.w0.heap.size
structure St where
  t:Nat→AV
  h:Nat→Option Box
  nb:Nat
  gh:Env→World→Prop
abbrev tru:Env→World→Prop:=fun _ _=>True
structure SameM (c:Ctx) (E:Env) (w:World) (E':Env) (w':World):Prop where
  M:E'.M=E.M
  os:w'.os=w.os
  tape:w'.tape=w.tape
  output:w'.output=w.output
  size:w.heap.size≤w'.heap.size
  heap:∀k,E.M k→w'.heap[k]?=w.heap[k]?
  low:∀k,k < c.w0.heap.size→¬c.W k→w'.heap[k]?=w.heap[k]?
def GhR (c:Ctx) (gh:Env→World→Prop) (E:Env) (w:World):Prop:=gh E w∧∀E w E' w',gh E w→SameM c E w E' w'→gh E' w'
theorem ghR_tru {c:Ctx} {E:Env} {w:World}:GhR c tru E w:=⟨trivial,fun _ _ _ _ _ _=>trivial⟩
theorem GhR.same {c:Ctx} {gh:Env→World→Prop} {E E':Env} {w w':World} (h:GhR c gh E w) (s:SameM c E w E' w'):GhR c gh E' w':=⟨h.2 _ _ _ _ h.1 s,h.2⟩
def mkD (D:Nat):Deferred:={ target:=.collected D,args:=#[] }
def DefR (c:Ctx) (E:Env) (w:World) (ds:List Deferred):Prop:=∃ms:List Nat,ds=ms.map mkD∧(c.defs= []∨ms= [])∧ms.Nodup∧∀D∈ms,E.M D∧c.w0.heap.size≤D∧w.heap[D]?=some (.deferred (some []))
theorem defR_nil {c:Ctx} {E:Env} {w:World}:DefR c E w []:=⟨[],rfl,.inr rfl,.nil,fun _ h=>by cases h⟩
theorem DefR.same {c:Ctx} {E E':Env} {w w':World} {ds:List Deferred} (h:DefR c E w ds) (s:SameM c E w E' w'):DefR c E' w' ds:=by
  obtain ⟨ms,h1,h0,hn,h2⟩:=h
  refine ⟨ms,h1,h0,hn,fun D hD=>?_⟩
  obtain ⟨h3,h4,h5⟩:=h2 D hD
  exact ⟨by rw [s.M];exact h3,h4,(s.heap D h3).trans h5⟩
structure SR0 (c:Ctx) (t:Nat→AV) (h:Nat→Option Box) (gh:Env→World→Prop) (F:Nat→Prop) (E:Env) (a:Act) (w:World):Prop where
  size:a.tmps.size=c.N
  defers:DefR c E w a.defers
  slots:∀n,RV E w (t n) (a.tmps.getD n undef)
  boxes:∀b bx,h b=some bx→BoxR E w b bx
  env:EnvOk E w
  below:BelowX c.W c.w0.heap.size c.w0 w
  own:∀b k,c.ns≤b→E.ρ b=some k→c.w0.heap.size≤k∨(c.W k∧¬c.E0.M k)
  low:∀b,b < c.nb0→E.ρ b=c.E0.ρ b
  m:(∀k,c.E0.M k→E.M k)∧∀k,E.M k→c.E0.M k∨c.w0.heap.size≤k
  free:∀b,F b→E.ρ b=none
  ownM:∀b k,c.ns≤b→E.ρ b=some k→¬E.M k
  gh:GhR c gh E w
def SR (c:Ctx) (st:St):=SR0 c st.t st.h st.gh (fun b=>st.nb≤b)
def evAt (t:Nat→AV):Operand→AV
  | .tmp n=>t n
  | .const v => match v with
    | .agg cs=>.agg (cs.toList.map Leaf.v)
    | .tuple _=>.u
    | v=>.one (.v v)
  | .global g=>.one (.v (.pointer (some ⟨g,0,none⟩)))
  | .func f=>.one (.fn (.func f) [] [])
theorem LeavesR_v {E:Env} {w:World}:∀(cs:List Value),cs.all (·.oneCell')=true→LeavesR E w (cs.map Leaf.v) cs
  | [],_=>rfl
  | c :: cs, h => by
    simp only [List.all_cons,Bool.and_eq_true] at h
    exact ⟨[c],cs,rfl,⟨rfl,h.1⟩,LeavesR_v cs h.2⟩
def constOk:Operand→Bool
  | .const (.agg cs)=>cs.toList.all (·.oneCell')
  | _=>true
theorem evAt_sound {E:Env} {w:World} {t:Nat→AV} {a:Act} (h:∀n,RV E w (t n) (a.tmps.getD n undef)) (x:Operand) (hx:constOk x=true):RV E w (evAt t x) (a.eval x):=by
  cases x with
  | tmp n=>exact h n
  | const v=>cases v <;> first|exact ⟨_,by simp [Act.eval],LeavesR_v _ hx⟩|exact ⟨rfl,rfl,rfl⟩|trivial
  | global g=>exact ⟨rfl,rfl,rfl⟩
  | func f=>exact ⟨rfl,[],[],rfl,rfl,rfl⟩
theorem EffR.sr {c:Ctx} {it:Item} {E E':Env} {w w':World} {F F':Nat→Prop} {t h gh t' h'} {a:Act} {dst:Option Tmp} {v:Value}
    (s:SR0 c t h gh F E a w) (r:EffR it E w E' w') (hv:RV E' w' it.val v) (hd:∀d,dst=some d→d < c.N)
    (hset:∀id bx,it.eff= .set id bx→c.ns≤id)
    (ht:∀n,(dst=some n→t' n=it.val)∧(dst≠some n→t' n=t n))
    (hh:∀b,(∀bx,(it.eff= .new b bx∨it.eff= .set b bx)→h' b=some bx)∧(it.eff.id?≠some b→h' b=h b))
    (hF:∀b,F' b→F b∧∀bx,it.eff≠.new b bx)
    (hnew:∀id bx,it.eff= .new id bx→c.nb0≤id) :
    SR0 c t' h' gh F' E' (a.put dst v) w':=by
  have hk:=r.keeps
  have hbel:BelowX c.W c.w0.heap.size c.w0 w':=by
    unfold EffR at r
    split at r
    · exact s.below.below r.2 s.below.size
    · obtain ⟨_,_,_,_,_,hbl,_⟩:=r;exact s.below.below hbl s.below.size
    · rename_i id bx' he
      obtain ⟨_,k',h1,h2,_⟩:=r
      have hk':=s.own _ _ (hset id bx' he) h1
      have hsz:=s.below.size
      exact ⟨h2.os.trans s.below.os,h2.tape.trans s.below.tape,h2.output.trans s.below.output,Nat.le_trans hsz h2.size,
        fun j hj hw=>(h2.block j (by omega) (fun e=>by
          subst e
          rcases hk' with hk'|hk'
          · omega
          · exact hw hk'.1)).trans (s.below.block j hj hw)⟩
  have hM:E'.M=E.M:=by
    unfold EffR at r
    split at r
    · rw [r.1]
    · obtain ⟨_,_,_,_,e,_⟩:=r;rw [e];rfl
    · rw [r.1]
  have hsame:SameM c E w E' w':=by
    refine ⟨hM,hbel.os.trans s.below.os.symm,hbel.tape.trans s.below.tape.symm,hbel.output.trans s.below.output.symm,?_,fun k hMk=>?_,fun k hk' hw=>(hbel.block k hk' hw).trans (s.below.block k hk' hw).symm⟩
    · unfold EffR at r
      split at r
      · exact r.2.size
      · obtain ⟨_,_,_,_,_,hbl,_⟩:=r;exact hbl.size
      · obtain ⟨_,k',h1,h2,_⟩:=r;exact h2.size
    · have hlt:=s.env.m k hMk
      unfold EffR at r
      split at r
      · exact r.2.block k hlt
      · obtain ⟨_,_,_,_,_,hbl,_⟩:=r;exact hbl.block k hlt
      · rename_i id bx' he
        obtain ⟨_,k',h1,h2,_⟩:=r
        exact h2.block k hlt fun e=>s.ownM _ _ (hset id bx' he) h1 (e ▸ hMk)
  have hρ:∀b k,E'.ρ b=some k→E.ρ b=some k∨(∃bx,it.eff= .new b bx∧w.heap.size≤k):=by
    intro b k hb
    unfold EffR at r
    split at r
    · obtain ⟨rfl,_⟩:=r;exact .inl hb
    · rename_i id bx he
      obtain ⟨k',h1,h2,h3,rfl,_⟩:=r
      by_cases e:b=id
      · subst e;simp [Env.add] at hb;subst hb;exact .inr ⟨bx,he,h1⟩
      · simp [Env.add,e] at hb;exact .inl hb
    · obtain ⟨rfl,_⟩:=r;exact .inl hb
  have hρ':∀b,b < c.nb0→E'.ρ b=E.ρ b:=by
    intro b hb
    unfold EffR at r
    split at r
    · rw [r.1]
    · rename_i id bx he
      obtain ⟨k',h1,h2,h3,rfl,_⟩:=r
      have:=hnew id bx he
      have:b≠id:=by omega
      simp [Env.add,this]
    · rw [r.1]
  refine ⟨?_,?_,?_,?_,r.env s.env,hbel,?_,fun b hb=>(hρ' b hb).trans (s.low b hb),by rw [hM];exact s.m,?_,fun b k hb0 hb=>?_,s.gh.same hsame⟩
  · cases dst with
    | none=>exact s.size
    | some d=>simpa [Act.put] using s.size
  · cases dst with
    | none=>exact s.defers.same hsame
    | some d=>exact s.defers.same hsame
  · intro n
    by_cases e:dst=some n
    · subst e
      rw [(ht n).1 rfl]
      have:n < a.tmps.size:=by rw [s.size];exact hd n rfl
      simpa [Act.put,Array.getD_eq_getD_getElem?,this] using hv
    · rw [(ht n).2 e]
      have:(a.put dst v).tmps.getD n undef=a.tmps.getD n undef:=by
        cases dst with
        | none=>rfl
        | some d =>
          have:d≠n:=fun h=>e (by rw [h])
          simp [Act.put,Array.getD_eq_getD_getElem?,Array.getElem?_setIfInBounds_ne this]
      rw [this]
      exact hk.rv (s.slots n)
  · intro b bx hb
    by_cases e:it.eff.id?=some b
    · have:∃bx',(it.eff= .new b bx'∨it.eff= .set b bx'):=by
        cases he:it.eff with
        | none=>rw [he] at e;cases e
        | new id bx'=>rw [he] at e;simp [Eff.id?] at e;subst e;exact ⟨bx',.inl rfl⟩
        | set id bx'=>rw [he] at e;simp [Eff.id?] at e;subst e;exact ⟨bx',.inr rfl⟩
      obtain ⟨bx',hx⟩:=this
      have:=(hh b).1 bx' hx
      rw [this] at hb;cases hb
      unfold EffR at r
      rcases hx with hx|hx <;> simp only [hx] at r
      · obtain ⟨_,_,_,_,_,_,h⟩:=r;exact h
      · obtain ⟨_,_,_,_,h⟩:=r;exact h
    · rw [(hh b).2 e] at hb
      refine (s.boxes b bx hb).keeps hk fun k hbk=>?_
      unfold EffR at r
      split at r
      · exact r.2.block k (s.env.r _ _ hbk)
      · obtain ⟨_,_,_,_,_,hbl,_⟩:=r;exact hbl.block k (s.env.r _ _ hbk)
      · rename_i id bx' he
        obtain ⟨_,k',h1,h2,_⟩:=r
        refine h2.block k (s.env.r _ _ hbk) fun ek=>e ?_
        subst ek
        rw [he,s.env.inj _ _ _ h1 hbk];rfl
  · intro b k hb0 hb
    rcases hρ b k hb with h|⟨bx,he,hle⟩
    · exact s.own b k hb0 h
    · exact .inl (Nat.le_trans s.below.size hle)
  · intro b hb
    cases hr:E'.ρ b with
    | none=>rfl
    | some k =>
      rcases hρ b k hr with h|⟨bx,he,_⟩
      · rw [s.free b (hF b hb).1] at h;cases h
      · exact absurd he ((hF b hb).2 bx)
  · rw [hM]
    rcases hρ b k hb with h|⟨bx,he,hle⟩
    · exact s.ownM b k hb0 h
    · exact fun h=>by have:=s.env.m k h;omega
-- axioms of EffR.sr
end Go.Ax
end
