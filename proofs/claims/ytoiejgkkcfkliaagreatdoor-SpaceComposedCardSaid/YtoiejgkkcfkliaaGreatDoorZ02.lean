/- Lemmas on the program and its library: part Z02. -/
import Derived.WalkKit
import Derived.Laws.MakeOwn
import Derived.WalkSpells
import Derived.Test.YtoiejgkkcfkliaaGreatDoorZ00
set_option linter.unusedVariables false
set_option linter.unusedSimpArgs false
section
namespace Go.Ax
open Go.RowKit (Below)
mutual
def i7.cl (n:Nat):i7→Prop
  | .ptr b _ _ _=>b < n
  | .own b _ _ _ _=>b < n
  | .gr b _ _ _=>b < n
  | .fn _ a b=>clL n a∧clL n b
  | _=>True
def clL (n:Nat):List i7→Prop
  | []=>True
  | l :: ls=>l.cl n∧clL n ls
end
mutual
def AV.cl (n:Nat):AV→Prop
  | .one x=>x.cl n
  | .agg xs=>clL n xs
  | .tup xs=>clV n xs
  | .u=>True
def clV (n:Nat):List AV→Prop
  | []=>True
  | x :: xs=>x.cl n∧clV n xs
end
structure a1h (n:Nat) (E E':u6) (w:World):Prop where
  ρ:∀b k,b < n→E.ρ b=some k→E'.ρ b=some k
  ok:∀k,E.ok w k→E'.ok w k
theorem a1h.shut {n E E' w} (h:a1h n E E' w):a1h 0 E.shut E'.shut w:=⟨fun _ _ h=>absurd h (Nat.not_lt_zero _),fun _ hk=>a1z.2 (h.ok _ (a1z.1 hk))⟩
theorem a1h.ints {n E E' w} (h:a1h n E E' w) {k:IntKind} {l:List Int} {x:Value} (hx:a6t E w k l x):a6t E' w k l x:=by
  rcases hx with hx|⟨b,o,c,rfl,h1,h2,h3⟩
  · exact .inl hx
  · exact .inr ⟨b,o,c,rfl,h.ok b h1,h2,h3⟩
theorem a1h.nn {n E E' w} (h:a1h n E E' w) {k:IntKind} {l:List Int} {x:Value} (hx:NnR E w k l x):NnR E' w k l x:=by
  obtain ⟨b,o,c,rfl,h1,h2,h3⟩:=hx
  exact ⟨b,o,c,rfl,h.ok b h1,h2,h3⟩
theorem a1h.int {n E E' w} (h:a1h n E E' w) {z:Int} {cs:List Value} (hx:a6g E w z cs):a6g E' w z cs:=by
  rcases hx with hx|⟨ds,b,o,c,rfl,h1,h2,h3,h4⟩
  · exact .inl hx
  · exact .inr ⟨ds,b,o,c,rfl,h.ok b h1,h2,h3,h4⟩
mutual
theorem a1h.leaf {n E E' w} (h:a1h n E E' w):∀{l:i7} {cs:List Value},l.cl n→l.R E w cs→l.R E' w cs
  | .v _,_,_,hx=>hx
  | .u,_,_,hx=>hx
  | .ptr _ _ _ _,_,hc,hx=>by obtain ⟨k,a,b⟩:=hx;exact ⟨k,h.ρ _ _ hc a,b⟩
  | .own _ _ _ _ _,_,hc,hx=>by obtain ⟨k,a,b⟩:=hx;exact ⟨k,h.ρ _ _ hc a,b⟩
  | .gr _ _ _ _, _, hc, hx => by
    rcases hx with hx|⟨k,a,b⟩
    · exact .inl hx
    · exact .inr ⟨k,h.ρ _ _ hc a,b⟩
  | .pp x,_,_,hx=>by obtain ⟨b,o,es,a,c,d,e⟩:=hx;exact ⟨b,o,es,a,h.ok b c,a1h.shutl h.shut d,e⟩
  | .int z,_,_,hx=>h.int (z:=z) hx
  | .frac q,_,_,hx=>by obtain ⟨xs,ys,a,b,c⟩:=hx;exact ⟨xs,ys,a,h.int b,h.int c⟩
  | .rint z,_,_,hx=>by obtain ⟨ds,x,a,b,c⟩:=hx;exact ⟨ds,x,a,h.ints b,c⟩
  | .ints k l,_,_,hx=>by obtain ⟨x,a,b⟩:=hx;exact ⟨x,a,h.ints b⟩
  | .nn k l,_,_,hx=>by obtain ⟨x,a,b⟩:=hx;exact ⟨x,a,h.nn b⟩
  | .row sz m g, _, _, hx => by
    rcases hx with hx|⟨b,o,c,a,hb,hn,hg⟩
    · exact .inl hx
    · refine .inr ⟨b,o,c,a,h.ok b hb,hn,fun i hi=>?_⟩
      obtain ⟨es,h0,h1,h2⟩:=hg i hi
      exact ⟨es,h0,a1h.shutl h.shut h1,h2⟩
  | .fn f a b,_,hc,hx=>by obtain ⟨xs,ys,e,h1,h2⟩:=hx;exact ⟨xs,ys,e,a1h.leaves h hc.1 h1,a1h.leaves h hc.2 h2⟩
theorem a1h.shutf {E E':u6} {w:World} (h:a1h 0 E.shut E'.shut w):∀{l:i7} {cs:List Value},l.R E.shut w cs→l.R E'.shut w cs
  | .v _,_,hx=>hx
  | .u,_,hx=>hx
  | .ptr _ _ _ _,_,hx=>by obtain ⟨k,a,b⟩:=hx;cases a
  | .own _ _ _ _ _,_,hx=>by obtain ⟨k,a,b⟩:=hx;cases a
  | .gr _ _ _ _, _, hx => by
    rcases hx with hx|⟨k,a,b⟩
    · exact .inl hx
    · cases a
  | .pp x,_,hx=>by obtain ⟨b,o,es,a,c,d,e⟩:=hx;exact ⟨b,o,es,a,h.ok b c,a1h.shutl h.shut d,e⟩
  | .int z,_,hx=>h.int (z:=z) hx
  | .frac q,_,hx=>by obtain ⟨xs,ys,a,b,c⟩:=hx;exact ⟨xs,ys,a,h.int b,h.int c⟩
  | .rint z,_,hx=>by obtain ⟨ds,x,a,b,c⟩:=hx;exact ⟨ds,x,a,h.ints b,c⟩
  | .ints k l,_,hx=>by obtain ⟨x,a,b⟩:=hx;exact ⟨x,a,h.ints b⟩
  | .nn k l,_,hx=>by obtain ⟨x,a,b⟩:=hx;exact ⟨x,a,h.nn b⟩
  | .row sz m g, _, hx => by
    rcases hx with hx|⟨b,o,c,a,hb,hn,hg⟩
    · exact .inl hx
    · refine .inr ⟨b,o,c,a,h.ok b hb,hn,fun i hi=>?_⟩
      obtain ⟨es,h0,h1,h2⟩:=hg i hi
      exact ⟨es,h0,a1h.shutl h.shut h1,h2⟩
  | .fn f a b,_,hx=>by obtain ⟨xs,ys,e,h1,h2⟩:=hx;exact ⟨xs,ys,e,a1h.shutl h h1,a1h.shutl h h2⟩
theorem a1h.shutl {E E':u6} {w:World} (h:a1h 0 E.shut E'.shut w):∀{ls:List i7} {cs:List Value},j7 E.shut w ls cs→j7 E'.shut w ls cs
  | [],_,hx=>hx
  | _ :: _,_,hx=>by obtain ⟨xs,ys,a,b,c⟩:=hx;exact ⟨xs,ys,a,a1h.shutf h b,a1h.shutl h c⟩
theorem a1h.leaves {n E E' w} (h:a1h n E E' w):∀{ls:List i7} {cs:List Value},clL n ls→j7 E w ls cs→j7 E' w ls cs
  | [],_,_,hx=>hx
  | _ :: _,_,hc,hx=>by obtain ⟨xs,ys,a,b,c⟩:=hx;exact ⟨xs,ys,a,a1h.leaf h hc.1 b,a1h.leaves h hc.2 c⟩
end
mutual
theorem a1h.rv {n E E' w} (h:a1h n E E' w):∀{x:AV} {v:Value},x.cl n→RV E w x v→RV E' w x v
  | .one _,_,hc,hx=>⟨hx.1,h.leaf hc hx.2⟩
  | .agg _,_,hc,hx=>by obtain ⟨cs,a,b⟩:=hx;exact ⟨cs,a,h.leaves hc b⟩
  | .tup _,_,hc,hx=>by obtain ⟨vs,a,b⟩:=hx;exact ⟨vs,a,a1h.rvs h hc b⟩
  | .u,_,_,_=>trivial
theorem a1h.rvs {n E E' w} (h:a1h n E E' w):∀{xs:List AV} {vs:List Value},clV n xs→RVs E w xs vs→RVs E' w xs vs
  | [],_,_,hx=>hx
  | _ :: _,_,hc,hx=>by obtain ⟨v,r,a,b,c⟩:=hx;exact ⟨v,r,a,a1h.rv h hc.1 b,a1h.rvs h hc.2 c⟩
end
def i7.clB:i7→Bool
  | .ptr _ _ _ _=>false
  | .own _ _ _ _ _=>false
  | .gr _ _ _ _=>false
  | .fn _ _ _=>false
  | _=>true
theorem d5o:∀{ls:List i7},ls.all i7.clB=true→clL 0 ls
  | [],_=>trivial
  | l :: ls, h => by
    simp only [List.all_cons,Bool.and_eq_true] at h
    refine ⟨?_,d5o h.2⟩
    have:=h.1
    cases l <;> first|trivial|cases this
def Sub (x y:AV):Prop:=∀E w v,RV E w x v→RV E w y v
def a6v:List AV→List AV→Prop
  | [],[]=>True
  | x :: xs,y :: ys=>Sub x y∧a6v xs ys
  | _,_=>False
theorem Sub.refl (x:AV):Sub x x:=fun _ _ _ h=>h
theorem a6v.refl:∀xs:List AV,a6v xs xs
  | []=>trivial
  | x :: xs=>⟨Sub.refl x,a6v.refl xs⟩
theorem a6v.rvs {E:u6} {w:World}:∀{xs ys:List AV} {vs:List Value},a6v xs ys→RVs E w xs vs→RVs E w ys vs
  | [],[],_,_,h=>h
  | [],_ :: _,_,h,_=>h.elim
  | _ :: _,[],_,h,_=>h.elim
  | _ :: _,_ :: _,_,h,hx=>by obtain ⟨v,r,a,b,c⟩:=hx;exact ⟨v,r,a,h.1 _ _ _ b,a6v.rvs h.2 c⟩
def a88 (P:Program) (f:FuncId):Prop:=∃fn,P.funcs[f]?=some fn∧(fn.name == "runtime.NumGoroutine")=false∧fn.body.isNone=false
structure Spec (P:Program) (G:World→Prop) (f:FuncId) (nb:Nat) (h:Nat→Option Box) (args:List AV) (r:AV):Prop where
  callable:a88 P f
  cl:clV nb args∧r.cl nb
  calls:∀(E:u6) (w:World) (vs:List Value),(∀b,nb≤b→E.ρ b=none)→a3q E w→G w→(∀b bx,h b=some bx→a6f E w b bx)→RVs E w args vs→
    Calls P f vs.toArray w fun e w'=>∃v,e= .returned v∧RV E w' r v∧Below w.heap.size w w'
def a67 (_:Nat):Option Box:=none
abbrev Pure (P:Program) (G:World→Prop) (f:FuncId) (args:List AV) (r:AV):Prop:=Spec P G f 0 a67 args r
theorem a5a (E:u6) (w:World):a1h 0 E E.shut w:=⟨fun _ _ h=>absurd h (by omega),fun _ h=>a1z.2 h⟩
theorem d8y (E:u6) (w:World):a1h 0 E.shut E w:=⟨fun _ _ h=>absurd h (by omega),fun _ h=>a1z.1 h⟩
theorem a3q.shut {E:u6} {w:World} (h:a3q E w):a3q E.shut w:=
  ⟨fun k hk=>hk.elim (h.m k) (fun ⟨b,hb⟩=>h.r b k hb),(fun _ _ h=>(by cases h)),(fun _ _ _ h=>(by cases h))⟩
variable {P:Program} {G:World→Prop}
theorem Pure.use {f:FuncId} {args:List AV} {r:AV} (s:Pure P G f args r) {E:u6} {w:World} {vs:List Value} (hE:a3q E w) (hG:G w) (h:RVs E w args vs) :
    Calls P f vs.toArray w fun e w'=>∃v,e= .returned v∧RV E w' r v∧Below w.heap.size w w':=
  (s.calls E.shut w vs (fun _ _=>rfl) hE.shut hG (fun _ _ h=>by cases h) ((a5a E w).rvs s.cl.1 h)).mono fun e w' ⟨v,h1,h2,h3⟩=>
    ⟨v,h1,(d8y E w').rv s.cl.2 h2,h3⟩
theorem b4g {E:u6} {w:World} {ev:Operand→AV} {f:Operand→Value}:∀(xs:List Operand),(∀x∈xs,RV E w (ev x) (f x))→RVs E w (xs.map ev) (xs.map f)
  | [],_=>rfl
  | x :: xs,h=>⟨f x,xs.map f,rfl,h x (by simp),b4g xs fun y hy=>h y (by simp [hy])⟩
def a5j (P:Program) (o:Oper) (ev:Operand→AV) (f:FuncId) (xs:List AV):Prop:=
  ∀(E:u6) (w:World) (a:Act),(∀x∈o.op.operands,RV E w (ev x) (a.eval x))→∃vs:List Value,RVs E w xs vs∧(execOp a.eval o).run P w=(callFunc f vs.toArray).run P w
theorem c3m {f:FuncId} {o:Oper} {args:Array Operand} {ats:Array TypeId} (ho:o.op= .call { callee:=.value (.func f),args,argTypes:=ats }) {ev:Operand→AV}:a5j P o ev f (args.toList.map ev):=by
  intro E w a hops
  refine ⟨args.toList.map a.eval,b4g args.toList fun y hy=>hops y ?_,?_⟩
  · rw [ho]
    show y∈#[Operand.func f]++args
    exact Array.mem_append.2 (.inr (by simpa using hy))
  · have e:(args.toList.map a.eval).toArray=args.map a.eval:=by rw [←Array.toList_map]
    rw [e]
    unfold execOp
    rw [ho]
    dsimp only
    simp only [resolve,Act.eval,Deferred.ofValue,Sem.run_bind,Sem.run_pure,Result.andThen_ok,invoke]
    simp
theorem c2t {E:u6} {w:World}:∀{xs ys:List AV} {us vs:List Value},RVs E w xs us→RVs E w ys vs→RVs E w (xs++ys) (us++vs)
  | [],_,us,_,h,g=>by obtain rfl:us= []:=h;exact g
  | _ :: _,_,_,_,⟨v,r,e,h1,h2⟩,g=>⟨v,r++_,by rw [e];rfl,h1,c2t h2 g⟩
theorem b3h {E:u6} {w:World}:∀{ls:List i7} {cs:List Value},(ls.all fun l=>Nat.beq l.size 1)=true→j7 E w ls cs→RVs E w (ls.map AV.one) cs
  | [],_,_,h=>h
  | l :: ls, cs, hs, ⟨xs, ys, e, h1, h2⟩ => by
    simp only [List.all_cons,Bool.and_eq_true] at hs
    have h3:=(i7.R_len h1).1
    rw [Nat.eq_of_beq_eq_true hs.1] at h3
    match xs,h3 with
    | [x],_=>exact ⟨x,ys,e,⟨Nat.eq_of_beq_eq_true hs.1,h1⟩,b3h hs.2 h2⟩
theorem c53 {f:FuncId} {o:Oper} {t:Operand} {args:Array Operand} {ats:Array TypeId} (ho:o.op= .call { callee:=.value t,args,argTypes:=ats }) {ev:Operand→AV} {fs cs:List i7} (ht:ev t= .one (.fn (.func f) fs cs))
    (h1:(fs.all fun l=>Nat.beq l.size 1)=true) (h2:(cs.all fun l=>Nat.beq l.size 1)=true):a5j P o ev f (fs.map AV.one++args.toList.map ev++cs.map AV.one):=by
  intro E w a hops
  have hf:=hops t (by rw [ho];show t∈#[t]++args;simp)
  rw [ht] at hf
  obtain ⟨_,xs,ys,h3,h4,h5⟩:=hf
  simp only [List.cons.injEq,and_true] at h3
  refine ⟨xs++args.toList.map a.eval++ys,c2t (c2t (b3h h1 h4) (b4g args.toList fun y hy=>hops y ?_)) (b3h h2 h5),?_⟩
  · rw [ho]
    show y∈#[t]++args
    exact Array.mem_append.2 (.inr (by simpa using hy))
  · have e:(xs++args.toList.map a.eval++ys).toArray=xs.toArray++args.map a.eval++ys.toArray:=by
      apply Array.ext';simp
    rw [e]
    unfold execOp
    rw [ho]
    dsimp only
    simp only [resolve,h3,Deferred.ofValue,Sem.run_bind,Sem.run_pure,Result.andThen_ok,invoke]
theorem b64 {f:FuncId} (hf:a88 P f) (vs:Array Value) (w:World):(callFunc f vs).run P w= .ok (.enter f vs) w:=by
  obtain ⟨fn,h1,h2,h3⟩:=hf
  simp only [callFunc,program,Sem.run_bind,Sem.run,Sem.run_pure,Result.andThen_ok,h1,h2,h3]
  simp
theorem c2j {f:FuncId} {xs:List AV} {r:AV} (s:Pure P G f xs r) {o:Oper} {ev:Operand→AV} {xs':List AV} (ho:a5j P o ev f xs') (hx:a6v xs' xs) (H:Nat→Option Box):n4 P G o ev H { val:=r }:=by
  intro E w a K Q hE hG hops _ _ hK
  obtain ⟨us,hus,hrun⟩:=ho E w a hops
  unfold Oper.wp
  rw [hrun,b64 s.callable]
  rw [Oper.upon_enter]
  have h1:RVs E w xs us:=hx.rvs hus
  have h2:=s.use hE hG h1
  refine h2.mono fun e w' ⟨v,h3,h4,h5⟩=>?_
  subst h3
  exact hK v E w' h4 ⟨rfl,h5⟩
structure c5d (P:Program) (f:FuncId) (args:List AV) (r:AV):Prop where
  run:∀(E:u6) (w:World) (vs:List Value),RVs E w args vs→∃v,(callFunc f vs.toArray).run P w= .ok (.value v) w∧RV E w r v
theorem c9h {f:FuncId} {xs:List AV} {r:AV} (s:c5d P f xs r) {o:Oper} {ev:Operand→AV} {xs':List AV} (ho:a5j P o ev f xs') (hx:a6v xs' xs) (H:Nat→Option Box):n4 P G o ev H { val:=r }:=by
  refine t6 fun E w a _ _ hops _=>?_
  obtain ⟨us,hus,hrun⟩:=ho E w a hops
  obtain ⟨v,h1,h2⟩:=s.run E w _ (hx.rvs hus)
  exact ⟨v,by rw [hrun];exact h1,h2⟩
structure b6e (P:Program) (G:World→Prop) (f:FuncId) (args:List AV) (sz m n c:Nat) (g:Nat→List i7):Prop where
  callable:a88 P f
  cl:clV 0 args
  gcl:∀i,i < m→clL 0 (g i)
  calls:∀(E:u6) (w:World) (vs:List Value),(∀b,E.ρ b=none)→a3q E w→G w→RVs E w args vs→
    Calls P f vs.toArray w fun e w'=>∃k,e= .returned (.slice (some ⟨k,0,none⟩) n c)∧w.heap.size≤k∧k < w'.heap.size∧Below w.heap.size w w'∧a6f (E.add 0 k) w' 0 ⟨sz,m,g,false⟩
theorem a6f.into {E E':u6} {w:World} {b b':Nat} {bx:Box} (hi:a1h 0 E E' w) (hcl:∀i,i < bx.n→clL 0 (bx.g i)) (h:a6f E w b bx) (hk:∀k,E.ρ b=some k→E'.ρ b'=some k):a6f E' w b' bx:=by
  rcases h with h|⟨k,c,T,h1,h2,h3,h4⟩
  · exact .inl h
  refine .inr ⟨k,c,T,hk k h1,h2,h3,fun i hi'=>?_⟩
  obtain ⟨es,h5,h6,h7⟩:=h4 i hi'
  exact ⟨es,h5,hi.leaves (hcl i hi') h6,h7⟩
theorem c9i {f:FuncId} {xs:List AV} {sz m n c:Nat} {g:Nat→List i7} (s:b6e P G f xs sz m n c g) {o:Oper} {ev:Operand→AV} {xs':List AV} (ho:a5j P o ev f xs') (hx:a6v xs' xs) (H:Nat→Option Box) {id:Nat}:n4 P G o ev H { val:=.one (.own id sz 0 n c),eff:=.new id ⟨sz,m,g,false⟩}:=by
  intro E w a K Q hE hG hops _ hfree hK
  obtain ⟨us,hus,hrun⟩:=ho E w a hops
  unfold Oper.wp
  rw [hrun,b64 s.callable]
  rw [Oper.upon_enter]
  have h1:RVs E w xs us:=hx.rvs hus
  have h2:=s.calls E.shut w _ (fun _=>rfl) hE.shut hG ((a5a E w).rvs s.cl h1)
  refine h2.mono fun e w' ⟨k,h3,h4,h5,h6,h7⟩=>?_
  subst h3
  have hid:E.ρ id=none:=hfree id _ rfl
  refine hK _ (E.add id k) w' ⟨rfl,k,by simp [u6.add],by simp⟩ ⟨k,h4,h5,hid,rfl,h6,?_⟩
  refine h7.into (b':=id) ⟨fun _ _ h=>absurd h (Nat.not_lt_zero _),fun j hj=>?_⟩ s.gcl (fun k' hk'=>by simpa [u6.add] using hk')
  obtain ⟨g1,g2,g3⟩:=hj
  refine ⟨g1,fun hm=>g2 (.inl hm),fun b hb=>?_⟩
  simp only [u6.add] at hb
  split at hb
  · exact g3 0 (by simpa [u6.add] using hb)
  · exact g2 (.inr ⟨b,hb⟩)
def c5a (b:Nat):i7→i7
  | .own x sz i n c => match x with
    | 0=>.own b sz i n c
    | _+1=>.u
  | .gr _ _ _ _=>.u
  | .ptr _ _ _ _=>.u
  | .fn _ _ _=>.u
  | l=>l
def d7j (b:Nat):AV→AV
  | .one l=>.one (c5a b l)
  | .agg ls=>.agg (ls.map (c5a b))
  | .tup _=>.u
  | .u=>.u
structure b0v (P:Program) (G:World→Prop) (f:FuncId) (bx:Box) (args:List AV) (r:AV) (bx':Box):Prop where
  nro:bx.ro=false
  callable:a88 P f
  one:∀x∈args,∃l:i7,x= .one l∧((∃sz i n c,l= .own 0 sz i n c)∨l.clB=true)
  cl:r.cl 0
  bcl:(∀i,i < bx.n→clL 0 (bx.g i))∧∀i,i < bx'.n→clL 0 (bx'.g i)
  calls:∀(E:u6) (w:World) (vs:List Value) (k:Nat),(∀b,b≠0→E.ρ b=none)→E.ρ 0=some k→a3q E w→¬E.M k→G w→a6f E w 0 bx→RVs E w args vs→
    Calls P f vs.toArray w fun e w'=>∃v,e= .returned v∧RV E w' r v∧b0w k w w'∧a6f E w' 0 bx'
def u6.only (E:u6) (b:Nat):u6:={ ρ:=fun x=>if x=0 then E.ρ b else none,M:=fun j=>(E.M j∨∃x,E.ρ x=some j)∧E.ρ b≠some j }
theorem c2b (E:u6) (b:Nat) (w:World):a1h 0 E (E.only b) w:=⟨fun _ _ h=>absurd h (Nat.not_lt_zero _),fun j hj=>⟨hj.1,fun h=>by
  rcases h.1 with h|⟨x,h⟩
  · exact hj.2.1 h
  · exact hj.2.2 x h,(fun x hx=>by
  simp only [u6.only] at hx
  split at hx
  · exact hj.2.2 b hx
  · cases hx)⟩⟩
theorem d0v (E:u6) (b:Nat) (w:World):a1h 0 (E.only b) E w:=⟨fun _ _ h=>absurd h (Nat.not_lt_zero _),fun j hj=>by
  have hb:E.ρ b≠some j:=by have:=hj.2.2 0;simpa [u6.only] using this
  exact ⟨hj.1,fun h=>hj.2.1 ⟨.inl h,hb⟩,fun x hx=>hj.2.1 ⟨.inr ⟨x,hx⟩,hb⟩⟩⟩
theorem c5f {E:u6} {w:World} {b:Nat}:∀{xs:List AV} {vs:List Value},(∀x∈xs,∃l:i7,x= .one l∧((∃sz i n c,l= .own 0 sz i n c)∨l.clB=true))→RVs E w (xs.map (d7j b)) vs→RVs (E.only b) w xs vs
  | [],_,_,h=>h
  | x :: xs, _, hx, h => by
    obtain ⟨v,r,rfl,h1,h2⟩:=h
    refine ⟨v,r,rfl,?_,c5f (fun y hy=>hx y (by simp [hy])) h2⟩
    obtain ⟨l,rfl,hl⟩:=hx x (by simp)
    rcases hl with ⟨sz,i,n,c,rfl⟩|hl
    · obtain ⟨_,k,h3,h4⟩:=h1
      exact ⟨rfl,k,by simpa [u6.only] using h3,h4⟩
    · have e:c5a b l=l:=by cases l <;> first|rfl|cases hl
      have h1:RV E w (.one (c5a b l)) v:=h1
      rw [e] at h1
      have:(AV.one l).cl 0:=by cases l <;> first|trivial|cases hl
      exact (c2b E b w).rv this h1
theorem c9j {f:FuncId} {xs:List AV} {bx bx':Box} {r:AV} (s:b0v P G f bx xs r bx') {o:Oper} {ev:Operand→AV} {xs':List AV} (ho:a5j P o ev f xs') {b:Nat} (hx:a6v xs' (xs.map (d7j b))) (H:Nat→Option Box) (hb:H b=some bx):n4 P G o ev H { val:=r,eff:=.set b bx' }:=by
  intro E w a K Q hE hG hops hbx _ hK
  obtain ⟨us,hus,hrun⟩:=ho E w a hops
  unfold Oper.wp
  rw [hrun,b64 s.callable]
  rw [Oper.upon_enter]
  have h1:=c5f s.one (hx.rvs hus)
  have hB:=hbx b (.inr rfl) bx hb
  rcases hB with hB|⟨k,cs,T,g1,g2,g3,g4⟩
  · rw [s.nro] at hB;cases hB.1
  have hB:=hbx b (.inr rfl) bx hb
  have hE':a3q (E.only b) w:=by
    refine ⟨fun j hj=>hj.1.elim (hE.m j) (fun ⟨x,h⟩=>hE.r x j h),fun x j hj=>?_,fun x y j hx hy=>?_⟩
    · simp only [u6.only] at hj
      split at hj
      · exact hE.r _ _ hj
      · cases hj
    · simp only [u6.only] at hx hy
      split at hx
      · split at hy
        · omega
        · cases hy
      · cases hx
  have hB':a6f (E.only b) w 0 bx:=hB.into (b':=0) (c2b E b w) s.bcl.1 (fun k' hk'=>by simpa [u6.only] using hk')
  have h2:=s.calls (E.only b) w _ k (fun x hx=>by simp [u6.only,hx]) (by simpa [u6.only] using g1) hE' (fun h=>h.2 g1) hG hB' h1
  refine h2.mono fun e w' ⟨v,h3,h4,h5,h6⟩=>?_
  subst h3
  refine hK _ E w' ((d0v E b w').rv s.cl h4) ⟨rfl,k,g1,h5,?_⟩
  exact h6.into (b':=b) (d0v E b w') s.bcl.2 (fun k' hk'=>by simpa [u6.only] using hk')
theorem b1a {w:World} {k o:Nat} {f:Field} (h:0 < P.cellsOf f.type):(fieldPlace ⟨k,o,none⟩ f).run P w= .ok ⟨k,o+f.offset,none⟩ w:=by
  unfold Program.cellsOf at h
  cases hi:P.info? f.type with
  | none=>simp [hi] at h
  | some i =>
    have:i.size≠0:=by simp [hi] at h;omega
    simp [fieldPlace,sizeOf,typeInfo,hi,this,Addr.add_mid]
theorem b0n {t:TypeId} {ti:TyI} (h:tyI P t=some ti) {offs:List (Nat×Nat×Bool)} (hk:ti.kind= .struct offs) {i:Nat} {d c:Nat} {b:Bool} (hi:offs[i]?=some (d,c,b)) :
    ∃fs f,P.underlying t=some (.struct fs)∧fs[i]?=some f∧f.offset=d∧P.cellsOf f.type=c∧((P.underlying f.type).map (·.isRow)).getD false=b:=by
  unfold tyI at h
  split at h
  · rename_i i' d' h1 h2
    cases h
    dsimp only at hk
    split at hk <;> try (cases hk;done)
    rename_i fs
    cases hk
    simp only [List.getElem?_map,Array.getElem?_toList,Option.map_eq_some_iff] at hi
    obtain ⟨f,h3,h4⟩:=hi
    simp only [Prod.mk.injEq] at h4
    exact ⟨fs,f,h2,h3,h4.1,h4.2.1,h4.2.2⟩
  · cases h
theorem c0i {o:Oper} {T:TypeId} {x:Operand} {f:Nat} (ho:o.op= .fieldAddr T x f) {ev:Operand→AV} {b sz i off:Nat} (hx:ev x= .one (.ptr b sz i off)) (H:Nat→Option Box)
    {ti:TyI} (ht:tyI P T=some ti) {offs:List (Nat×Nat×Bool)} (hk:ti.kind= .struct offs) {d c:Nat} {r:Bool} (hf:offs[f]?=some (d,c,r)) (hc:0 < c) :
    n4 P G o ev H { val:=.one (.ptr b sz i (off+d)) }:=by
  refine t6 fun E w a _ _ hops _=>?_
  have h1:=hops x (by rw [ho];simp [Op.operands])
  rw [hx] at h1
  obtain ⟨_,k,h2,h3⟩:=h1
  simp only [List.cons.injEq,and_true] at h3
  obtain ⟨fs,fd,h4,h5,h6,h7,_⟩:=b0n ht hk hf
  refine ⟨.pointer (some ⟨k,i*sz+(off+d),none⟩),?_,rfl,k,h2,rfl⟩
  unfold execOp;rw [ho];dsimp only;rw [h3]
  simp only [Instr.fieldAt,Instr.sureAddr,Sem.run_bind,run_underlying h4,Result.andThen_ok,h5,Sem.run_pure,b1a (P:=P) (by rw [h7];exact hc),h6,Nat.add_assoc]
theorem b6a {o:Oper} {T:TypeId} {x:Operand} {f:Nat} (ho:o.op= .fieldAddr T x f) {ev:Operand→AV} {xs ys:List i7} (hx:ev x= .one (.pp xs)) (H:Nat→Option Box)
    {ti:TyI} (ht:tyI P T=some ti) {offs:List (Nat×Nat×Bool)} (hk:ti.kind= .struct offs) {d c:Nat} {r:Bool} (hf:offs[f]?=some (d,c,r)) (hc:0 < c) (hy:a1y xs d=some ys) :
    n4 P G o ev H { val:=.one (.pp ys) }:=by
  refine t6 fun E w a _ _ hops _=>?_
  have h1:=hops x (by rw [ho];simp [Op.operands])
  rw [hx] at h1
  obtain ⟨_,k,off,es,h2,h3,h3',h3''⟩:=h1
  simp only [List.cons.injEq,and_true] at h2
  obtain ⟨fs,fd,h4,h5,h6,h7,_⟩:=b0n ht hk hf
  refine ⟨.pointer (some ⟨k,off+d,none⟩),?_,rfl,k,off+d,es.drop d,rfl,h3,a96 h3' hy,fun j v hv=>?_⟩
  · unfold execOp;rw [ho];dsimp only;rw [h2]
    simp only [Instr.fieldAt,Instr.sureAddr,Sem.run_bind,run_underlying h4,Result.andThen_ok,h5,Sem.run_pure,b1a (P:=P) (by rw [h7];exact hc),h6]
  · rw [List.getElem?_drop] at hv
    have:=h3'' _ _ hv
    rwa [←Nat.add_assoc] at this
theorem c69 {w:World} {t:TypeId} {cs:List Value} {off:Nat} {r:Bool} (hr:((P.underlying t).map (·.isRow)).getD false=r) (hc:0 < P.cellsOf t) (hu:P.underlying t≠none) {E:u6} {ls:List i7}
    (hls:j7 E w ls ((cs.drop off).take (P.cellsOf t))) (hle:off+P.cellsOf t≤cs.length) {y:AV} (hy:a66 r ls=some y) (hsz:r=false→P.cellsOf t=1):∃v,(part t cs.toArray off).run P w= .ok v w∧RV E w y v:=by
  cases hd:P.underlying t with
  | none=>exact absurd hd hu
  | some d =>
    rw [hd] at hr
    simp only [Option.map_some,Option.getD_some] at hr
    have hag:=b65 hd w
    unfold part
    cases hr':r with
    | true =>
      rw [hr'] at hy hr;cases hy
      have:∃i,P.info? t=some i∧i.size=P.cellsOf t:=by
        unfold Program.cellsOf at hc ⊢
        cases hi:P.info? t with
        | none=>simp [hi] at hc
        | some i=>exact ⟨i,rfl,by simp⟩
      obtain ⟨i,hi,hs⟩:=this
      refine ⟨.agg ((cs.drop off).take (P.cellsOf t)).toArray,?_,_,rfl,hls⟩
      simp [hag,hr,sizeOf,typeInfo,hi,hs]
    | false =>
      rw [hr'] at hy hr
      match ls,hls,hy with
      | [l], hls, hy =>
        simp only [a66] at hy
        split at hy
        · rename_i h5
          have h5:=Nat.eq_of_beq_eq_true h5
          cases hy
          obtain ⟨xs,ys,hxy,h6,h7⟩:=hls
          obtain rfl:ys= []:=h7
          rw [hsz hr',List.append_nil] at hxy
          have hl:off < cs.length:=by omega
          have:(cs.drop off).take 1= [cs[off]]:=by
            rw [List.drop_eq_getElem_cons hl];rfl
          rw [this] at hxy
          refine ⟨cs[off],?_,h5,hxy ▸ h6⟩
          simp [hag,hr,hl]
        · cases hy
theorem c0h {o:Oper} {T:TypeId} {x:Operand} {f:Nat} (ho:o.op= .field T x f) {ev:Operand→AV} {xs ls:List i7} (hx:ev x= .agg xs) (H:Nat→Option Box)
    {ti:TyI} (ht:tyI P T=some ti) {offs:List (Nat×Nat×Bool)} (hk:ti.kind= .struct offs) {d c:Nat} {r:Bool} (hf:offs[f]?=some (d,c,r)) (hc:0 < c) (hls:a7i xs d c=some ls)
    {y:AV} (hy:a66 r ls=some y) (hsz:r=false→c=1) (hu:∀fs fd,P.underlying T=some (.struct fs)→fs[f]?=some fd→P.underlying fd.type≠none):n4 P G o ev H { val:=y }:=by
  refine t6 fun E w a _ _ hops _=>?_
  have h1:=hops x (by rw [ho];simp [Op.operands])
  rw [hx] at h1
  obtain ⟨cs,h2,h3⟩:=h1
  obtain ⟨fs,fd,h4,h5,h6,h7,h8⟩:=b0n ht hk hf
  rcases b1w h3 hls with ⟨h11,h12⟩|⟨h11,_⟩
  · subst h7
    obtain ⟨v,h13,h14⟩:=c69 (P:=P) (t:=fd.type) (off:=d) h8 hc (hu fs fd h4 h5) h11 h12 hy hsz
    refine ⟨v,?_,h14⟩
    unfold execOp;rw [ho];dsimp only;rw [h2]
    simp only [Instr.field,Sem.run_bind,run_underlying h4,Result.andThen_ok,h5,asAgg,Sem.run_pure,h6,h13]
  · omega
-- axioms of c0h
-- axioms of c2j
end Go.Ax
end
section
namespace Go.Ax
open Go.RowKit (Below)
variable {P:Program} {G:World→Prop}
def a7a:IntKind→IntKind→Bool
  | .i64,.i64=>true
  | .u64,.u64=>true
  | .u8,.u8=>true
  | .i32,.i32=>true
  | .u32,.u32=>true
  | .i8,.i8=>true
  | .i16,.i16=>true
  | .u16,.u16=>true
  | _,_=>false
theorem b1t {a b:IntKind} (h:a7a a b=true):a=b:=by cases a <;> cases b <;> first|rfl|cases h
def a49 (op:BinOp) (k:IntKind) (a b:Int):Option (Prop×Value):=
  match op with
  | .add=>some (True,.int k (k.wrap (a+b)))
  | .sub=>some (True,.int k (k.wrap (a - b)))
  | .mul=>some (True,.int k (k.wrap (a*b)))
  | .quo=>some (b≠0,.int k (k.wrap (a.tdiv b)))
  | .rem=>some (b≠0,.int k (a.tmod b))
  | .eql=>some (True,.bool (a == b))
  | .neq=>some (True,.bool (a != b))
  | .lss=>some (True,.bool (decide (a < b)))
  | .leq=>some (True,.bool (decide (a≤b)))
  | .gtr=>some (True,.bool (decide (b < a)))
  | .geq=>some (True,.bool (decide (b≤a)))
  | .and=>some (True,.int k (k.wrap (BitVec.ofInt k.bits a &&& BitVec.ofInt k.bits b).toNat))
  | .or=>some (True,.int k (k.wrap (BitVec.ofInt k.bits a ||| BitVec.ofInt k.bits b).toNat))
  | .xor=>some (True,.int k (k.wrap (BitVec.ofInt k.bits a ^^^ BitVec.ofInt k.bits b).toNat))
  | _=>none
def b3y (a b:Nat):Bool:=match Nat.beq a 0,Nat.beq b 0 with
  | true,true=>true
  | _,_=>false
theorem b2d {a b:Nat} (h:b3y a b=true):a=0∧b=0:=by
  unfold b3y at h
  split at h
  · rename_i h1 h2;exact ⟨Nat.eq_of_beq_eq_true h1,Nat.eq_of_beq_eq_true h2⟩
  · cases h
def b3k (kind:TyK) (op:BinOp) (x y:Value):Option (Prop×Value):=
  match x,y with
  | .int k a, .int k' b => match op with
    | .shl=>some (0≤b,.int k (k.wrap (a*2 ^ (min b.toNat k.bits))))
    | .shr=>some (0≤b,.int k (a.fdiv (2 ^ (min b.toNat k.bits))))
    | op => match a7a k k' with
      | true=>a49 op k a b
      | false=>none
  | .string a, .string b => match op with
    | .add=>some (a.size+b.size≤9223372036854775807,.string (a++b))
    | .eql=>some (True,.bool (a.toList == b.toList))
    | .neq=>some (True,.bool (!(a.toList == b.toList)))
    | _=>none
  | .bool a, .bool b => match kind, op with
    | .bool,.eql=>some (True,.bool (a == b))
    | .bool,.neq=>some (True,.bool (a != b))
    | _,_=>none
  | .slice none a b, .slice none c d => match kind, op, b3y a b, b3y c d with
    | .slice _ _,.eql,true,true=>some (True,.bool true)
    | .slice _ _,.neq,true,true=>some (True,.bool false)
    | _,_,_,_=>none
  | _,_=>none
theorem c7k {t:TypeId} {ti:TyI} (h:tyI P t=some ti) (hk:ti.kind= .bool):P.underlying t=some .bool:=by
  unfold tyI at h
  split at h
  · rename_i i d h1 h2
    cases h
    dsimp only at hk
    split at hk <;> try (cases hk;done)
    exact h2
  · cases h
theorem a1p {t:TypeId} {ti:TyI} (h:tyI P t=some ti) {e sz:Nat} (hk:ti.kind= .slice e sz):P.underlying t=some (.slice e)∧P.cellsOf e=sz:=by
  unfold tyI at h
  split at h
  · rename_i i d h1 h2
    cases h
    dsimp only at hk
    split at hk <;> try (cases hk;done)
    cases hk
    exact ⟨h2,rfl⟩
  · cases h
theorem b2l {t:TypeId} {ti:TyI} (h:tyI P t=some ti) {n e sz:Nat} (hk:ti.kind= .array n e sz):P.underlying t=some (.array n e)∧P.cellsOf e=sz:=by
  unfold tyI at h
  split at h
  · rename_i i d h1 h2
    cases h
    dsimp only at hk
    split at hk <;> try (cases hk;done)
    cases hk
    exact ⟨h2,rfl⟩
  · cases h
theorem a7e {t:TypeId} {ti:TyI} (h:tyI P t=some ti) (hk:ti.kind= .string):P.underlying t=some .string:=by
  unfold tyI at h
  split at h
  · rename_i i d h1 h2
    cases h
    dsimp only at hk
    split at hk <;> try (cases hk;done)
    exact h2
  · cases h
theorem d1m {t:TypeId} {ti:TyI} (h:tyI P t=some ti) {k:IntKind} (hk:ti.kind= .int k):P.underlying t=some (.int k):=by
  unfold tyI at h
  split at h
  · rename_i i d h1 h2
    cases h
    dsimp only at hk
    split at hk <;> try (cases hk;done)
    cases hk
    exact h2
  · cases h
theorem a92 {t:TypeId} (h:0 < P.cellsOf t):∃i,P.info? t=some i∧i.size=P.cellsOf t:=by
  unfold Program.cellsOf at h ⊢
  cases hi:P.info? t with
  | none=>simp [hi] at h
  | some i=>exact ⟨i,rfl,by simp⟩
theorem c86 {op:BinOp} {k:IntKind} {a b:Int} {pre:Prop} {v:Value} (h:a49 op k a b=some (pre,v)) (hp:pre) (t:TypeId) (w:World) :
    (binOp op t (.int k a) (.int k b)).run P w= .ok v w:=by
  cases op <;> simp only [a49] at h <;> (try cases h) <;> simp [binOp,Op.intArith,Op.intDiv,Op.intCmp,Op.intBits,hp]
theorem a9l {t:TypeId} (ht:P.underlying t=some .bool) (d:Nat) (a b:Bool) (w:World):(Op.equalIn (d+1) t (.bool a) (.bool b)).run P w= .ok (a == b) w:=by
  simp [Op.equalIn,run_underlying ht]
theorem b0q {t e:TypeId} (ht:P.underlying t=some (.slice e)) (d:Nat) (a:Option Addr) (n c:Nat) (w:World):(Op.equalIn (d+1) t (.slice a n c) (.slice none 0 0)).run P w= .ok a.isNone w:=by
  cases a <;> simp [Op.equalIn,run_underlying ht]
theorem d6w {t:TypeId} (ht:P.underlying t=some .bool) (a b:Bool) (w:World):(binOp .eql t (.bool a) (.bool b)).run P w= .ok (.bool (a == b)) w:=by
  show (do pure (Value.bool (←Op.equalIn (9999+1) t (.bool a) (.bool b))):Sem Value).run P w=_
  simp only [Sem.run_bind,a9l ht,Result.andThen_ok,Sem.run_pure]
theorem d6x {t:TypeId} (ht:P.underlying t=some .bool) (a b:Bool) (w:World):(binOp .neq t (.bool a) (.bool b)).run P w= .ok (.bool (a != b)) w:=by
  show (do pure (Value.bool (!(←Op.equalIn (9999+1) t (.bool a) (.bool b)))):Sem Value).run P w=_
  simp only [Sem.run_bind,a9l ht,Result.andThen_ok,Sem.run_pure]
  rfl
theorem c67 {t e:TypeId} (ht:P.underlying t=some (.slice e)) (a:Option Addr) (n c:Nat) (w:World):(binOp .eql t (.slice a n c) (.slice none 0 0)).run P w= .ok (.bool a.isNone) w:=by
  show (do pure (Value.bool (←Op.equalIn (9999+1) t (.slice a n c) (.slice none 0 0))):Sem Value).run P w=_
  simp only [Sem.run_bind,b0q ht,Result.andThen_ok,Sem.run_pure]
theorem c68 {t e:TypeId} (ht:P.underlying t=some (.slice e)) (a:Option Addr) (n c:Nat) (w:World):(binOp .neq t (.slice a n c) (.slice none 0 0)).run P w= .ok (.bool !a.isNone) w:=by
  show (do pure (Value.bool (!(←Op.equalIn (9999+1) t (.slice a n c) (.slice none 0 0)))):Sem Value).run P w=_
  simp only [Sem.run_bind,b0q ht,Result.andThen_ok,Sem.run_pure]
theorem d6v {op:BinOp} {t:TypeId} {ti:TyI} (ht:tyI P t=some ti) {x y:Value} {pre:Prop} {v:Value} (h:b3k ti.kind op x y=some (pre,v)) (hp:pre) (w:World) :
    (binOp op t x y).run P w= .ok v w:=by
  unfold b3k at h
  split at h
  · rename_i k a k' b
    split at h
    · cases h
      have:¬b < 0:=by omega
      simp [binOp,Op.shift,this]
    · cases h
      have:¬b < 0:=by omega
      simp [binOp,Op.shift,this]
    · split at h
      · rename_i e;have e:=b1t e;subst e;exact c86 h hp t w
      · cases h
  · rename_i a b
    split at h
    · cases h
      have:¬(((a.size+b.size:Nat):Int) > IntKind.i64.max):=by
        have:IntKind.i64.max=9223372036854775807:=rfl
        rw [this];omega
      simp only [binOp,Op.stringOp,this,if_false,Sem.run_pure]
    · cases h;simp [binOp,Op.stringOp]
    · cases h;simp [binOp,Op.stringOp]
    · cases h
  · rename_i a b
    split at h
    · rename_i hk
      cases h
      exact d6w (c7k ht hk) a b w
    · rename_i hk
      cases h
      exact d6x (c7k ht hk) a b w
    · cases h
  · split at h
    · rename_i hk h1 h2
      obtain ⟨rfl,rfl⟩:=b2d h1
      obtain ⟨rfl,rfl⟩:=b2d h2
      cases h
      exact c67 (a1p ht hk).1 none 0 0 w
    · rename_i hk h1 h2
      obtain ⟨rfl,rfl⟩:=b2d h1
      obtain ⟨rfl,rfl⟩:=b2d h2
      cases h
      exact c68 (a1p ht hk).1 none 0 0 w
    · cases h
  · cases h
theorem b75 {op:BinOp} {t:TypeId} {x y:Operand} {a b:Value} (ha:a.oneCell'=true) (hni:a≠.nilIface) (w:World):(eqGuard op t x y a b).run P w= .ok () w:=by
  unfold eqGuard
  cases op <;> first
    | rfl
    | (cases a <;> first|(exact absurd rfl hni)|(cases ha;done)|rfl)
theorem d3i {o:Oper} {op:BinOp} {T T':TypeId} {x y:Operand} (ho:o.op= .binOp op T x y T') {ev:Operand→AV} {a b:Value} (hx:ev x= .one (.v a)) (hy:ev y= .one (.v b)) (H:Nat→Option Box)
    {ti:TyI} (ht:tyI P T=some ti) {pre:Prop} {v:Value} (h:b3k ti.kind op a b=some (pre,v)) (hp:pre) (hv:v.oneCell'=true):n4 P G o ev H { val:=.one (.v v) }:=by
  refine t6 fun E w ac _ _ hops _=>⟨v,?_,rfl,rfl,hv⟩
  have h1:=hops x (by rw [ho];simp [Op.operands])
  have h2:=hops y (by rw [ho];simp [Op.operands])
  rw [hx] at h1;rw [hy] at h2
  obtain ⟨_,h1,h1'⟩:=h1
  obtain ⟨_,h2,_⟩:=h2
  simp only [List.cons.injEq,and_true] at h1 h2
  have hni:a≠.nilIface:=by
    intro e;subst e
    unfold b3k at h
    simp at h
  unfold execOp;rw [ho];dsimp only
  rw [h1,h2]
  simp only [Sem.run_bind,b75 (h1 ▸ h1') hni,Result.andThen_ok,d6v ht h hp,Sem.run_pure]
theorem b77 {o:Oper} {op:BinOp} {T T':TypeId} {x y:Operand} (ho:o.op= .binOp op T x y T') {ev:Operand→AV} {k:IntKind} {l:List Int} (hx:ev x= .one (.nn k l)) (hy:ev y= .one (.v (.slice none 0 0))) (H:Nat→Option Box)
    {ti:TyI} (ht:tyI P T=some ti) {e sz:Nat} (hk:ti.kind= .slice e sz) {r:Bool} (hr:op= .eql∧r=false∨op= .neq∧r=true):n4 P G o ev H { val:=.one (.v (.bool r)) }:=by
  refine t6 fun E w ac _ _ hops _=>⟨.bool r,?_,rfl,rfl,rfl⟩
  have h1:=hops x (by rw [ho];simp [Op.operands])
  have h2:=hops y (by rw [ho];simp [Op.operands])
  rw [hx] at h1;rw [hy] at h2
  obtain ⟨_,v,h1,b,off,c,h3,_⟩:=h1
  obtain ⟨_,h2,_⟩:=h2
  simp only [List.cons.injEq,and_true] at h1 h2
  subst h3
  unfold execOp;rw [ho];dsimp only
  rw [h1,h2]
  rcases hr with ⟨rfl,rfl⟩|⟨rfl,rfl⟩<;>
    simp only [b75 (P:=P) (a:=.slice (some ⟨b,off,none⟩) l.length c) rfl (by simp),Sem.run_bind,Result.andThen_ok,c67 (a1p ht hk).1,c68 (a1p ht hk).1,Sem.run_pure,Option.isNone_some,Bool.not_false]
def unV (op:UnOp) (x:Value):Option Value:=
  match op,x with
  | .neg,.int k n=>some (.int k (k.wrap (0 - n)))
  | .not,.bool b=>some (.bool !b)
  | _,_=>none
theorem d7e {o:Oper} {op:UnOp} {T:TypeId} {x:Operand} (ho:o.op= .unOp op T x) {ev:Operand→AV} {a:Value} (hx:ev x= .one (.v a)) (H:Nat→Option Box) {v:Value} (h:unV op a=some v) :
    n4 P G o ev H { val:=.one (.v v) }:=by
  have hv:v.oneCell'=true:=by unfold unV at h;split at h <;> cases h <;> rfl
  refine t6 fun E w ac _ _ hops _=>⟨v,?_,rfl,rfl,hv⟩
  have h1:=hops x (by rw [ho];simp [Op.operands])
  rw [hx] at h1
  obtain ⟨_,h1,h1'⟩:=h1
  simp only [List.cons.injEq,and_true] at h1
  unfold execOp;rw [ho];dsimp only
  rw [h1]
  unfold unV at h
  split at h <;> cases h <;> simp [Op.unary,Op.intArith]
def a7o (src dst:TyK) (x:Value):Option Value:=
  match src,dst,x with
  | .int _,.int k,.int _ n=>some (.int k (k.wrap n))
  | .string,.string,.string s=>some (.string s)
  | _,_,_=>none
theorem c9k {o:Oper} {S T:TypeId} {x:Operand} (ho:o.op= .convert S T x) {ev:Operand→AV} {a:Value} (hx:ev x= .one (.v a)) (H:Nat→Option Box) {si ti:TyI} (hs:tyI P S=some si) (ht:tyI P T=some ti)
    {v:Value} (h:a7o si.kind ti.kind a=some v):n4 P G o ev H { val:=.one (.v v) }:=by
  have hv:v.oneCell'=true:=by unfold a7o at h;split at h <;> cases h <;> rfl
  refine t6 fun E w ac _ _ hops _=>⟨v,?_,rfl,rfl,hv⟩
  have h1:=hops x (by rw [ho];simp [Op.operands])
  rw [hx] at h1
  obtain ⟨_,h1,h1'⟩:=h1
  simp only [List.cons.injEq,and_true] at h1
  unfold execOp;rw [ho];dsimp only
  rw [h1]
  unfold a7o at h
  split at h
  · rename_i k0 k k1 n e1 e2 _
    cases h
    simp [convert,run_underlying (d1m hs e1),run_underlying (d1m ht e2),Conv.intToInt]
  · rename_i s e1 e2 _
    cases h
    simp [convert,run_underlying (a7e hs e1),run_underlying (a7e ht e2)]
  · cases h
theorem c9x {E:u6} {w:World}:∀{xs:List AV} {vs:List Value} {i:Nat} {x:AV},RVs E w xs vs→xs[i]?=some x→∃v,vs[i]?=some v∧RV E w x v
  | [],_,_,_,_,h=>by simp at h
  | _ :: _,_,0,_,h,e=>by obtain ⟨v,r,rfl,h1,_⟩:=h;simp at e;subst e;exact ⟨v,by simp,h1⟩
  | _ :: _,_,i+1,_,h,e=>by obtain ⟨v,r,rfl,_,h2⟩:=h;simpa using c9x h2 (by simpa using e)
theorem c4v {o:Oper} {x:Operand} {i:Nat} (ho:o.op= .extract x i) {ev:Operand→AV} {xs:List AV} (hx:ev x= .tup xs) (H:Nat→Option Box) {y:AV} (hy:xs[i]?=some y):n4 P G o ev H { val:=y }:=by
  refine t6 fun E w ac _ _ hops _=>?_
  have h1:=hops x (by rw [ho];simp [Op.operands])
  rw [hx] at h1
  obtain ⟨vs,h1,h2⟩:=h1
  obtain ⟨v,h3,h4⟩:=c9x h2 hy
  refine ⟨v,?_,h4⟩
  unfold execOp;rw [ho];dsimp only
  rw [h1]
  simp [Instr.extract,h3]
def b0c:AV→Option Int
  | .one (.v (.string s))=>some s.size
  | .one (.v (.slice _ n _))=>some n
  | .one (.own _ _ _ n _)=>some n
  | .one (.gr _ _ n _)=>some n
  | .one (.ints _ l)=>some l.length
  | .one (.nn _ l)=>some l.length
  | .one (.row _ n _)=>some n
  | _=>none
theorem c0k {o:Oper} {x:Operand} {T:TypeId} {ats:Array TypeId} (ho:o.op= .call { callee:=.builtin .len,args:=#[x],argTypes:=ats }) (hT:ats[0]?=some T) {ev:Operand→AV} {n:Int} (hx:b0c (ev x)=some n) (H:Nat→Option Box)
    {ti:TyI} (ht:tyI P T=some ti) (hk:ti.kind= .string∧(∃s,ev x= .one (.v (.string s)))∨(∃e sz,ti.kind= .slice e sz)∧¬∃s,ev x= .one (.v (.string s))):n4 P G o ev H { val:=.one (.v (.int .i64 n)) }:=by
  refine t6 fun E w ac _ _ hops _=>⟨.int .i64 n,?_,rfl,rfl,rfl⟩
  have h1:=hops x (by rw [ho];simp [Op.operands,Call.operands])
  unfold execOp;rw [ho]
  simp only [resolve,invoke,builtin,Builtin.len_,List.map_toArray,List.map_cons,List.map_nil,List.getElem?_toArray,List.getElem?_cons_zero,hT,Sem.run_bind,Sem.run_pure,Result.andThen_ok]
  have hs:∀a n' c,ac.eval x= .slice a n' c→(n':Int)=n→(¬∃s,ev x= .one (.v (.string s)))→
      ((do let __do_lift ←underlying T;match __do_lift,ac.eval x with| .slice _,.slice _ n _=>pure (goInt n)|_,_=>stuck "":Sem Value)).run P w= .ok (.int .i64 n) w:=by
    intro a n' c e1 e2 hn
    rcases hk with ⟨_,hk⟩|⟨⟨e,sz,hk⟩,_⟩
    · exact absurd hk hn
    · simp [run_underlying (a1p ht hk).1,e1,goInt,e2]
  rcases hk with ⟨hk,s,hs'⟩|⟨⟨e,sz,hk⟩,hn⟩
  · rw [hs'] at h1 hx
    obtain ⟨_,h1,_⟩:=h1
    simp only [List.cons.injEq,and_true] at h1
    simp only [b0c,Option.some.injEq] at hx
    simp [run_underlying (a7e ht hk),h1,goInt,hx]
  · have hu:=run_underlying (a1p ht hk).1 (P:=P) w
    have hv:∃a n' c,ac.eval x= .slice a n' c∧(n':Int)=n:=by
      cases hev:ev x with
      | agg _=>rw [hev] at hx;cases hx
      | tup _=>rw [hev] at hx;cases hx
      | u=>rw [hev] at hx;cases hx
      | one l =>
        rw [hev] at hx h1
        obtain ⟨_,h1⟩:=h1
        cases l with
        | v y =>
          obtain ⟨h1,_⟩:=h1
          simp only [List.cons.injEq,and_true] at h1
          cases y <;> simp only [b0c,Option.some.injEq,reduceCtorEq] at hx
          · exact absurd ⟨_,hev⟩ hn
          · exact ⟨_,_,_,h1,hx⟩
        | own b sz' i n' c =>
          obtain ⟨k,_,h1⟩:=h1
          simp only [List.cons.injEq,and_true] at h1
          simp only [b0c,Option.some.injEq] at hx
          exact ⟨_,_,_,h1,hx⟩
        | gr b sz' n' c =>
          simp only [b0c,Option.some.injEq] at hx
          rcases h1 with ⟨rfl,rfl,h1⟩|⟨k,_,h1⟩
          · simp only [List.cons.injEq,and_true] at h1
            exact ⟨_,_,_,h1,hx⟩
          · simp only [List.cons.injEq,and_true] at h1
            exact ⟨_,_,_,h1,hx⟩
        | ints k l =>
          obtain ⟨y,h1,h2⟩:=h1
          simp only [List.cons.injEq,and_true] at h1
          simp only [b0c,Option.some.injEq] at hx
          rcases h2 with ⟨rfl,rfl⟩|⟨b,off,c,rfl,_⟩
          · exact ⟨_,_,_,h1,by simpa using hx⟩
          · exact ⟨_,_,_,h1,hx⟩
        | nn k l =>
          obtain ⟨y,h1,b,off,c,rfl,_⟩:=h1
          simp only [List.cons.injEq,and_true] at h1
          simp only [b0c,Option.some.injEq] at hx
          exact ⟨_,_,_,h1,hx⟩
        | row sz' n' g =>
          simp only [b0c,Option.some.injEq] at hx
          rcases h1 with ⟨rfl,h1⟩|⟨b,off,c,h1,_⟩
          · simp only [List.cons.injEq,and_true] at h1
            exact ⟨_,_,_,h1,hx⟩
          · simp only [List.cons.injEq,and_true] at h1
            exact ⟨_,_,_,h1,hx⟩
        | _=>cases hx
    obtain ⟨a,n',c,h2,h3⟩:=hv
    simp [hu,h2,goInt,h3]
-- axioms of c0k
end Go.Ax
end
section
namespace Go.Ax
open Go.RowKit (Below)
variable {P:Program} {G:World→Prop}
theorem a02 {t:TypeId} {n:Nat} (h:P.cellsOf t=n) (hn:0 < n) (w:World):(sizeOf t).run P w= .ok n w:=by
  obtain ⟨i,h1,h2⟩:=a92 (P:=P) (t:=t) (by omega)
  simp [sizeOf,typeInfo,h1,h2,h]
theorem c0a {T e sz:Nat} {ti:TyI} (ht:tyI P T=some ti) (hk:ti.kind= .slice e sz) (hsz:0 < sz) {k off n c:Nat} {kd:IntKind} {i:Int} (h0:0≤i) (h1:i < n) (w:World) :
    (Instr.indexAt T (.slice (some ⟨k,off,none⟩) n c) (.int kd i)).run P w= .ok (.pointer (some ⟨k,off+i.toNat*sz,none⟩)) w:=by
  obtain ⟨hu,hc⟩:=a1p ht hk
  simp only [Instr.indexAt,asIntOf,Sem.run_bind,Sem.run_pure,Result.andThen_ok,run_underlying hu,h0,h1,and_self,if_true,a02 hc hsz,Addr.add_mid]
theorem b1p {T e sz m:Nat} {ti:TyI} (ht:tyI P T=some ti) (hk:ti.kind= .array m e sz) (hsz:0 < sz) {k off:Nat} {kd:IntKind} {i:Int} (h0:0≤i) (h1:i < m) (w:World) :
    (Instr.indexAt T (.pointer (some ⟨k,off,none⟩)) (.int kd i)).run P w= .ok (.pointer (some ⟨k,off+i.toNat*sz,none⟩)) w:=by
  obtain ⟨hu,hc⟩:=b2l ht hk
  simp only [Instr.indexAt,asIntOf,Sem.run_bind,Sem.run_pure,Result.andThen_ok,run_underlying hu,Instr.sureAddr]
  simp [h0,h1,a02 hc hsz,Addr.add_mid]
def b6v (sz:Nat) (i:Int):AV→Option (Prop×AV)
  | .one (.own b s j n _)=>some (s=sz∧0≤i∧i < n,.one (.ptr b s (j+i.toNat) 0))
  | .one (.gr b s n _)=>some (s=sz∧0≤i∧i < n,.one (.ptr b s i.toNat 0))
  | .one (.ints k l)=>some (sz=1∧0≤i∧i < l.length,.one (.pp [.v (.int k (l.getD i.toNat 0))]))
  | .one (.nn k l)=>some (sz=1∧0≤i∧i < l.length,.one (.pp [.v (.int k (l.getD i.toNat 0))]))
  | .one (.row s n g)=>some (s=sz∧0≤i∧i < n,.one (.pp (g i.toNat)))
  | _=>none
theorem b60 {w:World} {b o:Nat} {l:List Value} (h:w.rangeAt b o l) {i:Nat} {v:Value} (hi:l[i]?=some v):w.rangeAt b (o+i*1) [v]:=by
  intro j u hj
  match j,hj with
  | 0,hj=>simp at hj;subst hj;simpa using h i _ hi
  | j+1,hj=>simp at hj
theorem d7b {o:Oper} {T:TypeId} {x y:Operand} (ho:o.op= .indexAddr T x y) {ev:Operand→AV} {kd:IntKind} {i:Int} (hy:ev y= .one (.v (.int kd i))) (H:Nat→Option Box) {ti:TyI} (ht:tyI P T=some ti) {e sz:Nat} (hk:ti.kind= .slice e sz) (hsz:0 < sz)
    {pre:Prop} {r:AV} (hx:b6v sz i (ev x)=some (pre,r)) (hp:pre):n4 P G o ev H { val:=r }:=by
  refine t6 fun E w ac _ _ hops _=>?_
  have h1:=hops x (by rw [ho];simp [Op.operands])
  have h2:=hops y (by rw [ho];simp [Op.operands])
  rw [hy] at h2
  obtain ⟨_,h2,_⟩:=h2
  simp only [List.cons.injEq,and_true] at h2
  have key:∀{k off n c:Nat},ac.eval x= .slice (some ⟨k,off,none⟩) n c→0≤i→i < n→(execOp ac.eval o).run P w= .ok (.value (.pointer (some ⟨k,off+i.toNat*sz,none⟩))) w:=by
    intro k off n c h3 h4 h5
    unfold execOp;rw [ho];dsimp only
    rw [h3,h2]
    simp only [Sem.run_bind,c0a ht hk hsz h4 h5,Result.andThen_ok,Sem.run_pure]
  unfold b6v at hx
  split at hx
  · rename_i b s j n c hev
    cases hx
    obtain ⟨e1,hp⟩:=hp
    rw [hev] at h1
    obtain ⟨_,k,h3,h4⟩:=h1
    simp only [List.cons.injEq,and_true] at h4
    refine ⟨_,key h4 hp.1 hp.2,rfl,k,h3,?_⟩
    subst e1
    rw [Nat.add_mul];rfl
  · rename_i b s n c hev
    cases hx
    obtain ⟨e1,hp⟩:=hp
    rw [hev] at h1
    obtain ⟨_,h1⟩:=h1
    rcases h1 with ⟨rfl,_⟩|⟨k,h3,h4⟩
    · have:=hp.2;omega
    · simp only [List.cons.injEq,and_true] at h4
      refine ⟨_,key h4 hp.1 hp.2,rfl,k,h3,?_⟩
      subst e1
      rw [Nat.zero_add];rfl
  · rename_i k l hev
    cases hx
    obtain ⟨e1,hp⟩:=hp
    rw [hev] at h1
    obtain ⟨_,v,h3,h4⟩:=h1
    simp only [List.cons.injEq,and_true] at h3
    rcases h4 with ⟨rfl,h4⟩|⟨b,off,c,h4,h5,h6,h7⟩
    · have:=hp.2;simp at this;omega
    · refine ⟨_,key (h3.trans h4) hp.1 hp.2,rfl,b,_,[.int k (l.getD i.toNat 0)],rfl,h5,⟨[_],[],rfl,⟨rfl,rfl⟩,rfl⟩,?_⟩
      subst e1
      refine b60 h7 ?_
      have:i.toNat < l.length:=by omega
      simp [List.getD_eq_getElem?_getD,this]
  · rename_i k l hev
    cases hx
    obtain ⟨e1,hp⟩:=hp
    rw [hev] at h1
    obtain ⟨_,v,h3,b,off,c,h4,h5,h6,h7⟩:=h1
    simp only [List.cons.injEq,and_true] at h3
    refine ⟨_,key (h3.trans h4) hp.1 hp.2,rfl,b,_,[.int k (l.getD i.toNat 0)],rfl,h5,⟨[_],[],rfl,⟨rfl,rfl⟩,rfl⟩,?_⟩
    subst e1
    refine b60 h7 ?_
    have:i.toNat < l.length:=by omega
    simp [List.getD_eq_getElem?_getD,this]
  · rename_i s n g hev
    cases hx
    obtain ⟨e1,hp⟩:=hp
    rw [hev] at h1
    obtain ⟨_,h1⟩:=h1
    rcases h1 with ⟨rfl,_⟩|⟨b,off,c,h3,h4,h5,h6⟩
    · have:=hp.2;omega
    · simp only [List.cons.injEq,and_true] at h3
      obtain ⟨es,g1,g2,g3⟩:=h6 i.toNat (by omega)
      subst e1
      exact ⟨_,key h3 hp.1 hp.2,rfl,b,_,es,rfl,h4,g2,g3⟩
  · cases hx
theorem c7f {o:Oper} {T:TypeId} {x y:Operand} (ho:o.op= .indexAddr T x y) {ev:Operand→AV} {kd:IntKind} {i:Int} (hy:ev y= .one (.v (.int kd i))) (H:Nat→Option Box) {ti:TyI} (ht:tyI P T=some ti) {m e sz:Nat} (hk:ti.kind= .array m e sz) (hsz:0 < sz)
    {b s j off:Nat} (hx:ev x= .one (.ptr b s j off)) (hp:0≤i∧i < m):n4 P G o ev H { val:=.one (.ptr b s j (off+i.toNat*sz)) }:=by
  refine t6 fun E w ac _ _ hops _=>?_
  have h1:=hops x (by rw [ho];simp [Op.operands])
  have h2:=hops y (by rw [ho];simp [Op.operands])
  rw [hy] at h2;rw [hx] at h1
  obtain ⟨_,h2,_⟩:=h2
  obtain ⟨_,k,h3,h4⟩:=h1
  simp only [List.cons.injEq,and_true] at h2 h4
  refine ⟨_,?_,rfl,k,h3,rfl⟩
  unfold execOp;rw [ho];dsimp only
  rw [h4,h2]
  simp only [Sem.run_bind,b1p ht hk hsz hp.1 hp.2,Result.andThen_ok,Sem.run_pure,Nat.add_assoc]
theorem c0j {o:Oper} {T:TypeId} {x y:Operand} (ho:o.op= .indexAddr T x y) {ev:Operand→AV} {kd:IntKind} {i:Int} (hy:ev y= .one (.v (.int kd i))) (H:Nat→Option Box) {ti:TyI} (ht:tyI P T=some ti) {m e sz:Nat} (hk:ti.kind= .array m e sz) (hsz:0 < sz)
    {xs ys:List i7} (hx:ev x= .one (.pp xs)) (hd:a1y xs (i.toNat*sz)=some ys) (hp:0≤i∧i < m):n4 P G o ev H { val:=.one (.pp ys) }:=by
  refine t6 fun E w ac _ _ hops _=>?_
  have h1:=hops x (by rw [ho];simp [Op.operands])
  have h2:=hops y (by rw [ho];simp [Op.operands])
  rw [hy] at h2;rw [hx] at h1
  obtain ⟨_,h2,_⟩:=h2
  obtain ⟨_,k,off,es,h3,h4,h5,h6⟩:=h1
  simp only [List.cons.injEq,and_true] at h2 h3
  refine ⟨_,?_,rfl,k,off+i.toNat*sz,es.drop (i.toNat*sz),rfl,h4,a96 h5 hd,fun j v hv=>?_⟩
  · unfold execOp;rw [ho];dsimp only
    rw [h3,h2]
    simp only [Sem.run_bind,b1p ht hk hsz hp.1 hp.2,Result.andThen_ok,Sem.run_pure]
  · rw [List.getElem?_drop] at hv
    have:=h6 _ _ hv
    rwa [←Nat.add_assoc] at this
theorem c1a {o:Oper} {T:TypeId} {x y:Operand} (ho:o.op= .index T x y) {ev:Operand→AV} {kd:IntKind} {i:Int} {s:ByteArray} (hy:ev y= .one (.v (.int kd i))) (hx:ev x= .one (.v (.string s))) (H:Nat→Option Box) {ti:TyI} (ht:tyI P T=some ti) (hk:ti.kind= .string)
    (hp:0≤i∧i < s.size):n4 P G o ev H { val:=.one (.v (.int .u8 (s.data.getD i.toNat 0).toNat)) }:=by
  refine t6 fun E w ac _ _ hops _=>⟨.int .u8 (s.data.getD i.toNat 0).toNat,?_,rfl,rfl,rfl⟩
  have h1:=hops x (by rw [ho];simp [Op.operands])
  have h2:=hops y (by rw [ho];simp [Op.operands])
  rw [hy] at h2;rw [hx] at h1
  obtain ⟨_,h2,_⟩:=h2
  obtain ⟨_,h1,_⟩:=h1
  simp only [List.cons.injEq,and_true] at h1 h2
  unfold execOp;rw [ho];dsimp only
  rw [h1,h2]
  have hlt:i.toNat < s.size:=by omega
  have hlt':i.toNat < s.data.size:=hlt
  have hg:s[i.toNat]?=some (s.data.getD i.toNat 0):=by
    rw [getElem?_pos s i.toNat hlt]
    simp only [Array.getD_eq_getD_getElem?,Array.getElem?_eq_getElem hlt',Option.getD_some]
    rfl
  simp [Instr.index,asIntOf,run_underlying (a7e ht hk),hp.1,hg]
def a1w (ev:Operand→AV):Option Operand→Option (Option Int)
  | none=>some none
  | some x => match ev x with
    | .one (.v (.int _ i))=>some (some i)
    | _=>none
theorem b71 {ev:Operand→AV} {E:u6} {w:World} {a:Act} {x:Option Operand} {r:Option Int} (h:a1w ev x=some r) (hv:∀y,x=some y→RV E w (ev y) (a.eval y)) :
    (x=none∧r=none)∨∃y k i,x=some y∧r=some i∧a.eval y= .int k i:=by
  cases x with
  | none=>cases h;exact .inl ⟨rfl,rfl⟩
  | some y =>
    simp only [a1w] at h
    split at h
    · rename_i k i he
      cases h
      have:=hv y rfl
      rw [he] at this
      obtain ⟨_,h1,_⟩:=this
      simp only [List.cons.injEq,and_true] at h1
      exact .inr ⟨y,k,i,rfl,rfl,h1⟩
    · cases h
theorem a6a {b:Bool} {len cap:Nat} {ev:Operand→AV} {E:u6} {w:World} {a:Act} {lo hi:Option Operand} {l h:Option Int} (hl:a1w ev lo=some l) (hh:a1w ev hi=some h)
    (hvl:∀y,lo=some y→RV E w (ev y) (a.eval y)) (hvh:∀y,hi=some y→RV E w (ev y) (a.eval y)) (h0:0≤l.getD 0) (h1:l.getD 0≤h.getD len) (h2:h.getD len≤cap) :
    (Instr.sliceBounds b len cap (lo.map a.eval) (hi.map a.eval) none).run P w= .ok ((l.getD 0).toNat,(h.getD len).toNat,cap) w:=by
  have e2:(0:Int)≤h.getD len:=by omega
  rcases b71 hl hvl with ⟨rfl,rfl⟩|⟨y,k,i,rfl,rfl,hy⟩<;> rcases b71 hh hvh with ⟨rfl,rfl⟩|⟨z,k',i',rfl,rfl,hz⟩
  · simp [Instr.sliceBounds]
  · simp only [Option.getD_some] at h2 e2
    simp [Instr.sliceBounds,Instr.sliceBound,asIntOf,hz,e2,h2]
  · simp only [Option.getD_some,Option.getD_none] at h0 h1 h2
    simp [Instr.sliceBounds,Instr.sliceBound,asIntOf,hy,h0,h1]
  · simp only [Option.getD_some] at h0 h1 h2 e2
    have e3:i≤max i' 0:=by omega
    simp [Instr.sliceBounds,Instr.sliceBound,asIntOf,hy,hz,h0,e2,h2,e3]
theorem c1d {o:Oper} {T:TypeId} {x:Operand} {lo hi:Option Operand} (ho:o.op= .slice T x lo hi none) {ev:Operand→AV} {s:ByteArray} (hx:ev x= .one (.v (.string s))) (H:Nat→Option Box) {ti:TyI} (ht:tyI P T=some ti) (hk:ti.kind= .string)
    {l h:Option Int} (hl:a1w ev lo=some l) (hh:a1w ev hi=some h) (h0:0≤l.getD 0) (h1:l.getD 0≤h.getD s.size) (h2:h.getD s.size≤s.size) :
    n4 P G o ev H { val:=.one (.v (.string (s.extract (l.getD 0).toNat (h.getD s.size).toNat))) }:=by
  refine t6 fun E w ac _ _ hops _=>⟨_,?_,rfl,rfl,rfl⟩
  have g1:=hops x (by rw [ho];simp [Op.operands])
  rw [hx] at g1
  obtain ⟨_,g1,_⟩:=g1
  simp only [List.cons.injEq,and_true] at g1
  unfold execOp;rw [ho];dsimp only
  rw [g1]
  have hb:=a6a (P:=P) (b:=false) (len:=s.size) (cap:=s.size) hl hh (E:=E) (w:=w) (a:=ac) (fun y hy=>hops y (by rw [ho];subst hy;simp [Op.operands])) (fun y hy=>hops y (by rw [ho];subst hy;simp [Op.operands])) h0 h1 h2
  simp [Instr.sliceAt,Instr.slice,run_underlying (a7e ht hk),hb]
theorem a7d {o:Oper} {T:TypeId} {x:Operand} {lo hi:Option Operand} (ho:o.op= .slice T x lo hi none) {ev:Operand→AV} {k:IntKind} {xs:List Int} (hx:ev x= .one (.ints k xs)∨ev x= .one (.nn k xs)) (H:Nat→Option Box) {ti:TyI} (ht:tyI P T=some ti) {e:Nat} (hk:ti.kind= .slice e 1)
    {l h:Option Int} (hl:a1w ev lo=some l) (hh:a1w ev hi=some h) (h0:0≤l.getD 0) (h1:l.getD 0≤h.getD xs.length) (h2:h.getD xs.length≤xs.length) :
    n4 P G o ev H { val:=.one (.ints k ((xs.drop (l.getD 0).toNat).take ((h.getD xs.length).toNat - (l.getD 0).toNat))) }:=by
  have hx':∀E w v,RV E w (ev x) v→a6t E w k xs v:=by
    intro E w v hv
    rcases hx with hx|hx <;> rw [hx] at hv
    · obtain ⟨_,u,h3,h4⟩:=hv
      simp only [List.cons.injEq,and_true] at h3;subst h3;exact h4
    · obtain ⟨_,u,h3,h4⟩:=hv
      simp only [List.cons.injEq,and_true] at h3;subst h3;exact .inr h4
  refine t6 fun E w ac _ _ hops _=>?_
  have g1:=hx' _ _ _ (hops x (by rw [ho];simp [Op.operands]))
  obtain ⟨hu,hc⟩:=a1p ht hk
  have hb:∀cap:Nat,xs.length≤cap→(Instr.sliceBounds true xs.length cap (lo.map ac.eval) (hi.map ac.eval) none).run P w= .ok ((l.getD 0).toNat,(h.getD xs.length).toNat,cap) w:=fun cap hcap=>
    a6a (P:=P) hl hh (E:=E) (w:=w) (a:=ac) (fun y hy=>hops y (by rw [ho];subst hy;simp [Op.operands])) (fun y hy=>hops y (by rw [ho];subst hy;simp [Op.operands])) h0 h1 (by omega)
  rcases g1 with ⟨rfl,g1⟩|⟨b,off,c,g1,g2,g3,g4⟩
  · have hb:=hb 0 (by simp)
    have e1:(l.getD 0).toNat=0:=by simp at h1 h2;omega
    have e2:(h.getD (([]:List Int).length:Int)).toNat=0:=by simp at h2 ⊢;omega
    refine ⟨.slice none 0 0,?_,rfl,_,rfl,.inl ⟨by simp,rfl⟩⟩
    unfold execOp;rw [ho];dsimp only
    rw [g1]
    rw [e1,e2] at hb
    simp only [List.length_nil] at hb
    simp [Instr.sliceAt,Instr.slice,run_underlying hu,hb,a02 hc (by decide)]
  · have hb:=hb c g3
    refine ⟨.slice (some (if c=(l.getD 0).toNat then ⟨b,off,none⟩ else ⟨b,off+(l.getD 0).toNat,none⟩)) ((h.getD xs.length).toNat - (l.getD 0).toNat) (c - (l.getD 0).toNat),?_,rfl,_,rfl,.inr ?_⟩
    · unfold execOp;rw [ho];dsimp only
      rw [g1]
      have:∀d:Nat,(⟨b,off,none⟩:Addr).add (d*1)=⟨b,off+d,none⟩:=fun d=>by rw [Nat.mul_one,Addr.add_mid]
      simp only [Instr.sliceAt,Instr.slice,Sem.run_bind,run_underlying hu,Result.andThen_ok,Option.map_none,hb,a02 hc (by decide),Sem.run_pure,Option.map_some,Option.map_none,this]
      by_cases e3:c=(l.getD 0).toNat
      · simp only [if_pos e3]
      · simp only [if_neg e3]
    · have hlen:((xs.drop (l.getD 0).toNat).take ((h.getD xs.length).toNat - (l.getD 0).toNat)).length=(h.getD xs.length).toNat - (l.getD 0).toNat:=by
        simp;omega
      by_cases e3:c=(l.getD 0).toNat
      · refine ⟨b,off,c - (l.getD 0).toNat,by rw [if_pos e3,hlen],g2,by rw [hlen];omega,?_⟩
        have:(xs.drop (l.getD 0).toNat).take ((h.getD xs.length).toNat - (l.getD 0).toNat)= []:=by
          apply List.eq_nil_of_length_eq_zero;rw [hlen];omega
        rw [this]
        intro j v hv;simp at hv
      · refine ⟨b,off+(l.getD 0).toNat,c - (l.getD 0).toNat,by rw [if_neg e3,hlen],g2,by rw [hlen];omega,?_⟩
        have:=a5x g4 (l.getD 0).toNat ((h.getD xs.length).toNat - (l.getD 0).toNat)
        rwa [←List.map_drop,←List.map_take] at this
-- axioms of a7d
end Go.Ax
end
section
namespace Go.Ax
open Go.RowKit (Below)
variable {P:Program} {G:World→Prop}
theorem b8e (c:Array Value) (o:Nat) (vs:List Value) (h:o+vs.length≤c.size):(a1f c o vs).toList=c.toList.take o++(vs++c.toList.drop (o+vs.length)):=by
  apply List.ext_getElem?
  intro j
  rw [Array.getElem?_toList,a2q]
  by_cases h1:j < o
  · rw [if_neg (by omega),List.getElem?_append_left (by simp;omega),List.getElem?_take,if_pos h1,Array.getElem?_toList]
  · rw [List.getElem?_append_right (by simp;omega)]
    have e:(c.toList.take o).length=o:=by simp;omega
    rw [e]
    by_cases h2:j < o+vs.length
    · rw [if_pos (by omega),List.getElem?_append_left (by omega)]
    · rw [if_neg (by omega),List.getElem?_append_right (by omega),List.getElem?_drop,Array.getElem?_toList]
      congr 1;omega
theorem b3u:∀(vs:List Value) (off k:Nat) (cells:Array Value),((vs.zipIdx k).foldl (fun cs (x:Value×Nat)=>cs.setIfInBounds (off+x.2) x.1) cells)=a1f cells (off+k) vs
  | [],_,_,_=>rfl
  | v :: vs, off, k, cells => by
    simp only [List.zipIdx_cons,List.foldl_cons,a1f]
    rw [b3u vs off (k+1)]
    rfl
def a3t (offs:Nat→Option (Nat×Nat)) (ev:Operand→AV):List (Nat×Operand)→List i7→Option (List i7)
  | [],ls=>some ls
  | (i, x) :: r, ls => match offs i, (ev x).leaves with
    | some (off, sz), some new => match Nat.beq (s8 new) sz with
      | true => match b0t ls off sz new with
        | some ls'=>a3t offs ev r ls'
        | none=>none
      | false=>none
    | _,_=>none
theorem d65 {ls ls' new:List i7} {o n:Nat} {E:u6} {w:World} {cs:List Value} (h:j7 E w ls cs) (e:b0t ls o n new=some ls'):o≤cs.length∧o+n≤cs.length:=by
  unfold b0t at e
  cases ht:a3s ls o with
  | none=>rw [ht] at e;cases e
  | some a =>
    cases hd:a1y ls (o+n) with
    | none=>rw [ht,hd] at e;cases e
    | some b =>
      have h1:=(b6c h ht).2
      refine ⟨h1,?_⟩
      have:∀{ls:List i7} {n:Nat} {ls':List i7} {cs:List Value},j7 E w ls cs→a1y ls n=some ls'→n≤cs.length:=by
        intro ls
        induction ls with
        | nil => intro n ls' cs h e; cases n with
          | zero=>omega
          | succ n=>rw [show a1y [] (n+1)=none from rfl] at e;cases e
        | cons x xs ih =>
          intro n ls' cs h e
          cases n with
          | zero=>omega
          | succ n =>
            obtain ⟨ys,zs,rfl,h1,h2⟩:=h
            have hl:=(i7.R_len h1).1
            rw [b9l] at e
            split at e
            · rename_i hb
              have hb:=Nat.le_of_ble_eq_true hb
              have:=ih h2 e
              simp;omega
            · rename_i hb
              have:¬(x.size≤n+1):=fun h=>by rw [Nat.ble_eq_true_of_le h] at hb;cases hb
              simp;omega
      exact this h hd
theorem c6f {E:u6} {w:World} {ev:Operand→AV} {a:Act} {offs:Nat→Option (Nat×Nat)}:∀(parts:List (Nat×Operand)) (ls:List i7) (cells:Array Value) {ls':List i7},
    j7 E w ls cells.toList→(∀p∈parts,RV E w (ev p.2) (a.eval p.2))→a3t offs ev parts ls=some ls'→
    ∃cells',Instr.fill offs cells (parts.map fun p=>(p.1,a.eval p.2))=some cells'∧j7 E w ls' cells'.toList
  | [], ls, cells, ls', h, _, e => by
    simp only [a3t,Option.some.injEq] at e;subst e
    exact ⟨cells,rfl,h⟩
  | (i, x) :: r, ls, cells, ls', h, hp, e => by
    simp only [a3t] at e
    split at e
    · rename_i off sz new ho hn
      split at e
      · rename_i hs
        have hs:=Nat.eq_of_beq_eq_true hs
        cases hset:b0t ls off sz new with
        | none=>rw [hset] at e;cases e
        | some ls1 =>
          rw [hset] at e
          have hx:=b47 (hp (i,x) (by simp)) hn
          have hlen:=(w7 hx).1
          have hle:=d65 h hset
          simp only [Array.length_toList] at hlen hle
          have h1:=d64 h hx hset
          have h2:(a1f cells off (a.eval x).cells.toList).toList=cells.toList.take off++((a.eval x).cells.toList++cells.toList.drop (off+sz)):=by
            rw [b8e _ _ _ (by simp;omega)]
            simp only [Array.length_toList]
            rw [hlen,hs]
          rw [←h2] at h1
          obtain ⟨cells',h3,h4⟩:=c6f r ls1 (a1f cells off (a.eval x).cells.toList) h1 (fun p hp'=>hp p (by simp [hp'])) e
          refine ⟨cells',?_,h4⟩
          simp only [List.map_cons,Instr.fill,ho]
          have hc1:(a.eval x).cells.size=sz:=by rw [hlen,hs]
          have hc2:¬(off+(a.eval x).cells.size > cells.size):=by omega
          have hf:Array.foldl (fun cs (x:Value×Nat)=>cs.setIfInBounds (off+x.2) x.1) cells (a.eval x).cells.zipIdx=a1f cells off (a.eval x).cells.toList:=by
            rw [←Array.foldl_toList,Array.toList_zipIdx]
            exact b3u _ off 0 cells
          rw [hc1] at hc2
          simp only [hc1,ne_eq,not_true_eq_false,decide_false,Bool.false_or,decide_eq_true_eq]
          rw [if_neg hc2,hf,h3]
      · cases e
    · cases e
def a1s:TyK→Nat→Option (Nat×Nat)
  | .struct offs, i => match offs[i]? with
    | some o=>some (o.1,o.2.1)
    | none=>none
  | .array _ _ sz,i=>some (i*sz,sz)
  | _,_=>none
def a3m:TyK→Bool
  | .struct offs=>offs.all fun o=>Nat.ble 1 o.2.1
  | .array _ _ sz=>Nat.ble 1 sz
  | _=>false
theorem c7l {t:TypeId} {ti:TyI} (h:tyI P t=some ti) {offs:List (Nat×Nat×Bool)} (hk:ti.kind= .struct offs) :
    ∃fs,P.underlying t=some (.struct fs)∧offs=fs.toList.map fun f=>(f.offset,P.cellsOf f.type,((P.underlying f.type).map (·.isRow)).getD false):=by
  unfold tyI at h
  split at h
  · rename_i i' d' h1 h2
    cases h
    dsimp only at hk
    split at hk <;> try (cases hk;done)
    cases hk
    exact ⟨_,h2,rfl⟩
  · cases h
theorem c9g {o:Oper} {T:TypeId} {parts:Array (Nat×Operand)} (ho:o.op= .build T parts) {ev:Operand→AV} (H:Nat→Option Box) {ti:TyI} (ht:tyI P T=some ti) (hpo:a3m ti.kind=true) {zs:List Value} (hz:ti.zero=some zs) (h1:zs.all (·.oneCell')=true)
    {ls:List i7} (hls:a3t (a1s ti.kind) ev parts.toList (zs.map i7.v)=some ls):n4 P G o ev H { val:=.agg ls }:=by
  refine t6 fun E w ac _ _ hops _=>?_
  obtain ⟨i,d,hi,hu,_,_,_,h2⟩:=a4x ht
  rw [hz] at h2
  cases hzero:i.zero with
  | none=>rw [hzero] at h2;cases h2
  | some z =>
    rw [hzero] at h2;simp only [Option.map_some,Option.some.injEq] at h2
    obtain ⟨cells',h3,h4⟩:=c6f (E:=E) (w:=w) (a:=ac) parts.toList (zs.map i7.v) z.cells (by rw [←h2];exact a6m zs h1)
      (fun p hp=>hops p.2 (by rw [ho];simp only [Op.operands];simp only [List.mem_toArray,List.mem_map];exact ⟨p,by simpa using hp,rfl⟩)) hls
    refine ⟨.agg cells',?_,cells'.toList,by simp,h4⟩
    unfold execOp;rw [ho];dsimp only
    have hzr:(zeroValue T).run P w= .ok z w:=by simp [zeroValue,typeInfo,hi,hzero]
    have e1:(parts.map fun x=>(x.1,ac.eval x.2)).toList=parts.toList.map fun p=>(p.1,ac.eval p.2):=by simp
    unfold a3m at hpo
    split at hpo
    · rename_i offs hk
      obtain ⟨fs,h5,h6⟩:=c7l ht hk
      have hmap:(fs.mapM fun f=>(do pure (f.offset,←sizeOf f.type):Sem (Nat×Nat))).run P w= .ok (fs.map fun f=>(f.offset,P.cellsOf f.type)) w:=by
        rw [h6] at hpo
        simp only [List.all_map,List.all_eq_true,Function.comp] at hpo
        have gen:∀(l:List Field) (acc:Array (Nat×Nat)),(∀f∈l,0 < P.cellsOf f.type)→
            (l.foldlM (fun (bs:Array (Nat×Nat)) (f:Field)=>(do let b ←(do pure (f.offset,←sizeOf f.type):Sem (Nat×Nat));pure (bs.push b):Sem (Array (Nat×Nat)))) acc).run P w= .ok (acc++(l.map fun f=>(f.offset,P.cellsOf f.type)).toArray) w:=by
          intro l
          induction l with
          | nil=>intro acc _;simp
          | cons f l ih =>
            intro acc hl
            have:=a02 (P:=P) (t:=f.type) rfl (hl f (by simp)) w
            simp only [List.foldlM_cons,Sem.run_bind,this,Result.andThen_ok,Sem.run_pure]
            rw [ih _ (fun f' h'=>hl f' (by simp [h']))]
            simp
        rw [Array.mapM_eq_foldlM,←Array.foldlM_toList]
        have:=gen fs.toList #[] (fun f hf=>Nat.le_of_ble_eq_true (hpo f hf))
        refine Eq.trans ?_ (this.trans ?_)
        · rfl
        · congr 1;apply Array.ext';simp only [Array.toList_map,Array.empty_append,List.toList_toArray]
      simp only [Instr.build,Sem.run_bind,hzr,Result.andThen_ok,run_underlying h5,hmap]
      have hoff:(fun j=>(fs.map fun f=>(f.offset,P.cellsOf f.type))[j]?)=a1s ti.kind:=by
        funext j
        rw [hk,h6]
        simp [a1s]
        cases fs[j]? <;> rfl
      simp only [hoff,e1,h3,Sem.run_pure,Result.andThen_ok]
    · rename_i n e sz hk
      obtain ⟨h5,h6⟩:=b2l ht hk
      have hsz:=Nat.le_of_ble_eq_true hpo
      simp only [Instr.build,Sem.run_bind,hzr,Result.andThen_ok,run_underlying h5,a02 h6 hsz]
      have hoff:(fun i=>some (i*sz,sz))=a1s ti.kind:=by rw [hk];rfl
      simp only [hoff,e1,h3,Sem.run_pure,Result.andThen_ok]
    · cases hpo
theorem c07 {z:Array Value} {sz m i j:Nat} (hz:z.size=sz) (hi:i < m) (hj:j < sz):(madeCells z (m*sz))[i*sz+j]?=z[j]?:=by
  have hlt:i*sz+j < m*sz:=by
    have:(i+1)*sz≤m*sz:=Nat.mul_le_mul_right _ hi
    rw [Nat.add_mul] at this;omega
  have hmod:(i*sz+j)%z.size=j:=by rw [hz,Nat.mul_comm,Nat.mul_add_mod,Nat.mod_eq_of_lt hj]
  have hj':j < z.size:=by omega
  simp [madeCells,hlt,hmod,hj']
theorem d3k {o:Oper} {T:TypeId} {x y:Operand} (ho:o.op= .makeSlice T x y) {ev:Operand→AV} {kl kc:IntKind} {l c:Int} (hx:ev x= .one (.v (.int kl l))) (hy:ev y= .one (.v (.int kc c))) (H:Nat→Option Box) (id:Nat)
    {ti te:TyI} (ht:tyI P T=some ti) {e sz:Nat} (hk:ti.kind= .slice e sz) (_hsz:0 < sz) (hte:tyI P e=some te) {zs:List Value} (hz:te.zero=some zs) (h1:zs.all (·.oneCell')=true) (hzl:zs.length=sz)
    (hp:0≤l∧l≤c∧(te.bytes:Int)*c≤281474976710656∧c≤9223372036854775807) :
    n4 P G o ev H { val:=.one (.own id sz 0 l.toNat c.toNat),eff:=.new id { sz:=sz,n:=c.toNat,g:=fun _=>zs.map i7.v } }:=by
  intro E w a K Q hE hG hops hb hid hK
  have hid:=hid id _ rfl
  have g1:=hops x (by rw [ho];simp [Op.operands])
  have g2:=hops y (by rw [ho];simp [Op.operands])
  rw [hx] at g1;rw [hy] at g2
  obtain ⟨_,g1,_⟩:=g1
  obtain ⟨_,g2,_⟩:=g2
  simp only [List.cons.injEq,and_true] at g1 g2
  obtain ⟨hu,hc⟩:=a1p ht hk
  obtain ⟨i,d,hi,_,hs,hby,_,h2⟩:=a4x hte
  rw [hz] at h2
  cases hzero:i.zero with
  | none=>rw [hzero] at h2;cases h2
  | some z =>
    rw [hzero] at h2;simp only [Option.map_some,Option.some.injEq] at h2
    have hsi:i.size=sz:=by
      unfold Program.cellsOf at hc;rw [hi] at hc;simpa using hc
    have hrun:=run_make (P:=P) w T e i z hu hi hzero kl kc l c hp.1 hp.2.1 (by rw [hby];exact hp.2.2.1) hp.2.2.2
    unfold Oper.wp execOp
    rw [ho];dsimp only
    rw [g1,g2]
    simp only [Sem.run_bind,hrun,Result.andThen_ok,Sem.run_pure]
    have hk':=b6w (a27 w (.cells (madeCells z.cells (c.toNat*i.size)) e)) hid (Nat.le_refl _)
    have hρ:(E.add id w.heap.size).ρ id=some w.heap.size:=by simp [u6.add]
    have hzs:z.cells.size=sz:=by rw [←hzl,h2];simp
    refine hK _ (E.add id w.heap.size) _ ⟨rfl,_,hρ,by simp⟩ ⟨w.heap.size,Nat.le_refl _,a5n _ _,hid,rfl,a27 _ _,.inr ⟨w.heap.size,_,e,hρ,a56 _ _,Nat.le_of_eq (by rw [size_madeCells,hsi]),fun j hj=>⟨zs,?_,a6m zs h1,fun d v hv=>?_⟩⟩⟩
    · have:=(w7 (a6m (E:=E) (w:=w) zs h1)).1
      rw [←this,hzl]
    · have hd:d < sz:=by have:=(List.getElem?_eq_some_iff.1 hv).1;omega
      show (madeCells z.cells (c.toNat*i.size))[j*sz+d]?=some v
      rw [hsi,c07 hzs hj hd,←hv,h2,Array.getElem?_toList]
theorem c1c {o:Oper} {T:TypeId} {x:Operand} {lo hi:Option Operand} (ho:o.op= .slice T x lo hi none) {ev:Operand→AV} {b s i n c:Nat} (hx:ev x= .one (.own b s i n c)) (H:Nat→Option Box) {ti:TyI} (ht:tyI P T=some ti) {e:Nat} (hk:ti.kind= .slice e s) (hs:0 < s)
    {l h:Option Int} (hl:a1w ev lo=some l) (hh:a1w ev hi=some h) (h0:0≤l.getD 0) (h1:l.getD 0≤h.getD n) (h2:h.getD n≤c) (h3:l.getD 0=0∨l.getD 0 < c) :
    n4 P G o ev H { val:=.one (.own b s (i+(l.getD 0).toNat) ((h.getD n).toNat - (l.getD 0).toNat) (c - (l.getD 0).toNat)) }:=by
  refine t6 fun E w ac _ _ hops _=>?_
  have g1:=hops x (by rw [ho];simp [Op.operands])
  rw [hx] at g1
  obtain ⟨_,k,g2,g1⟩:=g1
  simp only [List.cons.injEq,and_true] at g1
  obtain ⟨hu,hc⟩:=a1p ht hk
  have hb:(Instr.sliceBounds true n c (lo.map ac.eval) (hi.map ac.eval) none).run P w= .ok ((l.getD 0).toNat,(h.getD n).toNat,c) w:=
    a6a (P:=P) hl hh (E:=E) (w:=w) (a:=ac) (fun y hy=>hops y (by rw [ho];subst hy;simp [Op.operands])) (fun y hy=>hops y (by rw [ho];subst hy;simp [Op.operands])) h0 h1 h2
  refine ⟨.slice (some ⟨k,(i+(l.getD 0).toNat)*s,none⟩) ((h.getD n).toNat - (l.getD 0).toNat) (c - (l.getD 0).toNat),?_,rfl,k,g2,rfl⟩
  unfold execOp;rw [ho];dsimp only
  rw [g1]
  simp only [Instr.sliceAt,Instr.slice,Sem.run_bind,run_underlying hu,Result.andThen_ok,Option.map_none,hb,a02 hc hs,Sem.run_pure,Option.map_some,Addr.add_mid]
  rcases h3 with h3|h3
  · rw [h3];simp
  · have:c≠(l.getD 0).toNat:=by omega
    simp only [if_neg this,Nat.add_mul]
theorem d7d {o:Oper} {x y:Operand} {ats:Array TypeId} (ho:o.op= .call { callee:=.builtin .min,args:=#[x,y],argTypes:=ats }) {ev:Operand→AV} {k:IntKind} {a b:Int} (hx:ev x= .one (.v (.int k a))) (hy:ev y= .one (.v (.int k b))) (H:Nat→Option Box) :
    n4 P G o ev H { val:=.one (.v (.int k (if b < a then b else a))) }:=by
  refine t6 fun E w ac _ _ hops _=>⟨.int k (if b < a then b else a),?_,rfl,rfl,rfl⟩
  have g1:=hops x (by rw [ho];simp [Op.operands,Call.operands])
  have g2:=hops y (by rw [ho];simp [Op.operands,Call.operands])
  rw [hx] at g1;rw [hy] at g2
  obtain ⟨_,g1,_⟩:=g1
  obtain ⟨_,g2,_⟩:=g2
  simp only [List.cons.injEq,and_true] at g1 g2
  unfold execOp;rw [ho]
  simp [resolve,invoke,builtin,Builtin.min_,Builtin.min2,g1,g2]
theorem d7c {o:Oper} {x y:Operand} {ats:Array TypeId} (ho:o.op= .call { callee:=.builtin .max,args:=#[x,y],argTypes:=ats }) {ev:Operand→AV} {k:IntKind} {a b:Int} (hx:ev x= .one (.v (.int k a))) (hy:ev y= .one (.v (.int k b))) (H:Nat→Option Box) :
    n4 P G o ev H { val:=.one (.v (.int k (if a < b then b else a))) }:=by
  refine t6 fun E w ac _ _ hops _=>⟨.int k (if a < b then b else a),?_,rfl,rfl,rfl⟩
  have g1:=hops x (by rw [ho];simp [Op.operands,Call.operands])
  have g2:=hops y (by rw [ho];simp [Op.operands,Call.operands])
  rw [hx] at g1;rw [hy] at g2
  obtain ⟨_,g1,_⟩:=g1
  obtain ⟨_,g2,_⟩:=g2
  simp only [List.cons.injEq,and_true] at g1 g2
  unfold execOp;rw [ho]
  simp [resolve,invoke,builtin,Builtin.max_,Builtin.max2,g1,g2]
def a0y (ev:Operand→AV):List (Nat×Operand)→Nat→Option (List (List i7))
  | [],_=>some []
  | (i, x) :: r, j => match Nat.beq i j with
    | true => match (ev x).leaves, a0y ev r (j + 1) with
      | some ls,some rest=>some (ls :: rest)
      | _,_=>none
    | false=>none
theorem b1o {E:u6} {w:World} {ev:Operand→AV} {a:Act} {sz:Nat}:∀(parts:List (Nat×Operand)) (j:Nat) (lss:List (List i7)) (cells:Array Value),
    a0y ev parts j=some lss→(∀ls∈lss,s8 ls=sz)→(∀p∈parts,RV E w (ev p.2) (a.eval p.2))→(j+parts.length)*sz≤cells.size→
    ∃cells',Instr.fill (fun i=>some (i*sz,sz)) cells (parts.map fun p=>(p.1,a.eval p.2))=some cells'∧cells'.size=cells.size∧
      (∀d,d < j*sz→cells'[d]?=cells[d]?)∧∀i ls,lss[i]?=some ls→∃es,j7 E w ls es∧∀d v,es[d]?=some v→cells'[(j+i)*sz+d]?=some v
  | [], j, lss, cells, h, _, _, _ => by
    cases h
    exact ⟨cells,rfl,rfl,fun _ _=>rfl,fun i ls h=>by simp at h⟩
  | (i, x) :: r, j, lss, cells, h, hsz, hp, hle => by
    simp only [a0y] at h
    split at h
    · rename_i e
      have e:=Nat.eq_of_beq_eq_true e
      subst e
      split at h
      · rename_i ls rest h1 h2
        cases h
        have hx:=b47 (hp (i,x) (by simp)) h1
        have hlen:=(w7 hx).1
        simp only [Array.length_toList] at hlen
        have hs:=hsz ls (by simp)
        simp only [List.length_cons] at hle
        have hle':(i+1)*sz≤cells.size:=Nat.le_trans (Nat.mul_le_mul_right _ (by omega)) hle
        rw [Nat.add_mul] at hle'
        obtain ⟨cells',h3,h4,h5,h6⟩:=b1o r (i+1) rest (a1f cells (i*sz) (a.eval x).cells.toList) h2 (fun ls' h'=>hsz ls' (by simp [h'])) (fun p hp'=>hp p (by simp [hp'])) (by rw [a30];rw [show i+1+r.length=i+(r.length+1) by omega];exact hle)
        refine ⟨cells',?_,by rw [h4,a30],fun d hd=>?_,fun m ls' hm=>?_⟩
        · simp only [List.map_cons,Instr.fill]
          have hc1:(a.eval x).cells.size=sz:=by rw [hlen,hs]
          have hf:Array.foldl (fun cs (x:Value×Nat)=>cs.setIfInBounds (i*sz+x.2) x.1) cells (a.eval x).cells.zipIdx=a1f cells (i*sz) (a.eval x).cells.toList:=by
            rw [←Array.foldl_toList,Array.toList_zipIdx]
            exact b3u _ (i*sz) 0 cells
          have hc2:¬(i*sz+sz > cells.size):=by omega
          simp only [hc1,ne_eq,not_true_eq_false,decide_false,Bool.false_or,decide_eq_true_eq]
          rw [if_neg hc2,hf,h3]
        · rw [h5 d (by rw [Nat.add_mul];omega),a2q,if_neg (by omega)]
        · cases m with
          | zero =>
            simp at hm;subst hm
            refine ⟨_,hx,fun d v hv=>?_⟩
            have hd:=(List.getElem?_eq_some_iff.1 hv).1
            simp only [Array.length_toList] at hd
            rw [Nat.add_zero,h5 _ (by rw [Nat.add_mul];omega),a2q,if_pos (by simp;omega),←hv]
            congr 1;omega
          | succ m =>
            obtain ⟨es,h7,h8⟩:=h6 m ls' (by simpa using hm)
            exact ⟨es,h7,fun d v hv=>by have:=h8 d v hv;rw [show i+(m+1)=i+1+m by omega];exact this⟩
      · cases h
    · cases h
theorem b0r {o:Oper} {T:TypeId} {len:Nat} {parts:Array (Nat×Operand)} (ho:o.op= .buildSlice T len parts) {ev:Operand→AV} (H:Nat→Option Box) {ti te:TyI} (ht:tyI P T=some ti) {e sz:Nat} (hk:ti.kind= .slice e sz) (hsz:0 < sz)
    (hte:tyI P e=some te) {zs:List Value} (hz:te.zero=some zs) {lss:List (List i7)} (hl:a0y ev parts.toList 0=some lss) (hls:∀ls∈lss,s8 ls=sz) (hcl:∀ls∈lss,clL 0 ls) (hn:lss.length=len) (hlen:parts.toList.length=len) (hmax:len*sz≤16777216) :
    n4 P G o ev H { val:=.one (.row sz len fun i=>lss.getD i []) }:=by
  intro E w a K Q hE hG hops _ _ hK
  obtain ⟨hu,hc⟩:=a1p ht hk
  obtain ⟨i,d,hi,_,hs,hby,_,h2⟩:=a4x hte
  rw [hz] at h2
  cases hzero:i.zero with
  | none=>rw [hzero] at h2;cases h2
  | some z =>
    have hzr:(zeroValue e).run P w= .ok z w:=by simp [zeroValue,typeInfo,hi,hzero]
    have hops':∀p∈parts.toList,RV E w (ev p.2) (a.eval p.2):=fun p hp=>hops p.2 (by rw [ho];simp only [Op.operands];simp only [List.mem_toArray,List.mem_map];exact ⟨p,hp,rfl⟩)
    have e1:(parts.map fun x=>(x.1,a.eval x.2)).toList=parts.toList.map fun p=>(p.1,a.eval p.2):=by simp
    have hfill:∀z':Array Value,∃cells',Instr.fill (fun i=>some (i*sz,sz)) ((Array.range (len*sz)).map (z'[·%z'.size]!)) (parts.toList.map fun p=>(p.1,a.eval p.2))=some cells'∧cells'.size=len*sz∧
        ∀i ls,lss[i]?=some ls→∃es,j7 E w ls es∧∀d v,es[d]?=some v→cells'[i*sz+d]?=some v:=by
      intro z'
      obtain ⟨cells',h3,h4,_,h6⟩:=b1o (E:=E) (w:=w) (a:=a) parts.toList 0 lss ((Array.range (len*sz)).map (z'[·%z'.size]!)) hl hls hops' (by simp only [Array.length_toList] at hlen;simp [hlen])
      exact ⟨cells',h3,by rw [h4];simp,fun i ls h=>by have:=h6 i ls h;simpa using this⟩
    have hrun:∃cells',(execOp a.eval o).run P w= .ok (.value (.slice (some ⟨w.heap.size,0,none⟩) len len)) (w.alloc (.cells cells' e))∧cells'.size=len*sz∧
        ∀i ls,lss[i]?=some ls→∃es,j7 E w ls es∧∀d v,es[d]?=some v→cells'[i*sz+d]?=some v:=by
      by_cases h0:len*sz=0
      · obtain ⟨cells',h3,h4,h5⟩:=hfill #[]
        refine ⟨cells',?_,h4,h5⟩
        unfold execOp;rw [ho];dsimp only
        simp only [Instr.buildSlice,Sem.run_bind,run_underlying hu,Result.andThen_ok,a02 hc hsz]
        have hm:¬((0:Nat) > 2 ^ 24):=by decide
        rw [h0] at h3
        simp only [h0,hm,if_false,if_true,Sem.run_bind,Sem.run_pure,Result.andThen_ok,e1,h3,newRow,newObj]
        rfl
      · obtain ⟨cells',h3,h4,h5⟩:=hfill z.cells
        refine ⟨cells',?_,h4,h5⟩
        unfold execOp;rw [ho];dsimp only
        simp only [Instr.buildSlice,Sem.run_bind,run_underlying hu,Result.andThen_ok,a02 hc hsz]
        have hm:¬(len*sz > 2 ^ 24):=by omega
        simp only [hm,if_false,h0,hzr,Sem.run_bind,Sem.run_pure,Result.andThen_ok,e1,h3,newRow,newObj]
        rfl
    obtain ⟨cells',h3,h4,h5⟩:=hrun
    unfold Oper.wp
    rw [h3]
    have hk':=a3f (E:=E) (a27 w (.cells cells' e))
    refine hK _ E _ ⟨rfl,.inr ⟨w.heap.size,0,len,rfl,⟨a5n _ _,fun h=>?_,fun b h=>?_⟩,Nat.le_refl _,fun j hj=>?_⟩⟩ ⟨rfl,a27 _ _⟩
    · have:=hE.m _ h;omega
    · have:=hE.r _ _ h;omega
    · have hj':j < lss.length:=by omega
      obtain ⟨es,h6,h7⟩:=h5 j lss[j] (by simp [hj'])
      have hg:lss.getD j []=lss[j]:=by simp [List.getD_eq_getElem?_getD,hj']
      refine ⟨es,by show s8 (lss.getD j [])=sz;rw [hg];exact hls _ (List.getElem_mem hj'),by show j7 E.shut _ (lss.getD j []) es;rw [hg];exact (a5a E _).leaves (hcl _ (List.getElem_mem hj')) (hk'.leaves h6),fun d v hv=>?_⟩
      rw [Nat.zero_add,cell_of_row _ _ _ cells' e (0,0) (a56 _ _)]
      exact h7 d v hv
theorem a9n {o:Oper} {T:TypeId} {parts:Array (Nat×Operand)} (ho:o.op= .buildSlice T 0 parts) {ev:Operand→AV} (H:Nat→Option Box) {ti:TyI} (ht:tyI P T=some ti) {e sz:Nat} (hk:ti.kind= .slice e sz) (hsz:0 < sz) (hp:parts.toList= []) (id:Nat) :
    n4 P G o ev H { val:=.one (.gr id sz 0 0),eff:=.new id ⟨sz,0,fun _=> [],true⟩}:=by
  intro E w a K Q hE hG hops _ hid hK
  obtain ⟨hu,hc⟩:=a1p ht hk
  have hid:=hid id _ rfl
  have hp:parts=#[]:=by rw [←Array.toList_inj];exact hp
  subst hp
  have hrun:(execOp a.eval o).run P w= .ok (.value (.slice (some ⟨w.heap.size,0,none⟩) 0 0)) (w.alloc (.cells #[] e)):=by
    unfold execOp;rw [ho];dsimp only
    simp only [Instr.buildSlice,Sem.run_bind,run_underlying hu,Result.andThen_ok,a02 hc hsz]
    have hm:¬((0:Nat) > 2 ^ 24):=by decide
    have hf:Instr.fill (fun i=>some (i*sz,sz)) (Array.map (fun x=>(#[]:Array Value)[x%(#[]:Array Value).size]!) (Array.range 0)) ((Array.map (fun x:Nat×Operand=>(x.fst,a.eval x.snd)) #[]).toList)=some #[]:=by simp [Instr.fill]
    simp only [Nat.zero_mul,hm,if_false,if_true,Sem.run_bind,Sem.run_pure,Result.andThen_ok,newRow,newObj,hf]
    rfl
  unfold Oper.wp
  rw [hrun]
  have hρ:(E.add id w.heap.size).ρ id=some w.heap.size:=by simp [u6.add]
  exact hK _ (E.add id w.heap.size) _ ⟨rfl,.inr ⟨_,hρ,rfl⟩⟩ ⟨w.heap.size,Nat.le_refl _,a5n _ _,hid,rfl,a27 _ _,.inl ⟨rfl,rfl⟩⟩
-- axioms of a9n
-- axioms of b0r
end Go.Ax
end
