/- Lemmas on the program and its library, part Ax7. -/
import Derived.WalkKit
import Derived.Laws.MakeOwn
import Derived.WalkSpells
import Derived.Test.YtalgbhjnbgkneaaGreatDoorZAx4
set_option linter.unusedVariables false
set_option linter.unusedSimpArgs false
section
namespace Go.Ax
open Go.RowKit (Below)
/-! ## Values that bear no pointer into an activation's own variables -/
mutual
def Leaf.cl (n:Nat):Leaf→Prop
  | .ptr b _ _ _=>b < n
  | .own b _ _ _ _=>b < n
  | .gr b _ _ _=>b < n
  | .fn _ a b=>clL n a∧clL n b
  | _=>True
def clL (n:Nat):List Leaf→Prop
  | []=>True
  | l :: ls=>l.cl n∧clL n ls
end
mutual
def AV.cl (n:Nat):AV→Prop
  | .one x=>x.cl n
  | .agg xs=>clL n xs
  | .tup xs=>clV n xs
  | .u=>True
def clV (n:Nat):List AV→Prop
  | []=>True
  | x :: xs=>x.cl n∧clV n xs
end
structure Into (n:Nat) (E E':Env) (w:World):Prop where
  ρ:∀b k,b < n→E.ρ b=some k→E'.ρ b=some k
  ok:∀k,E.ok w k→E'.ok w k
theorem Into.shut {n E E' w} (h:Into n E E' w):Into 0 E.shut E'.shut w:=⟨fun _ _ h=>absurd h (Nat.not_lt_zero _),fun _ hk=>shut_ok.2 (h.ok _ (shut_ok.1 hk))⟩
theorem Into.ints {n E E' w} (h:Into n E E' w) {k:IntKind} {l:List Int} {x:Value} (hx:IntsR E w k l x):IntsR E' w k l x:=by
  rcases hx with hx|⟨b,o,c,rfl,h1,h2,h3⟩
  · exact .inl hx
  · exact .inr ⟨b,o,c,rfl,h.ok b h1,h2,h3⟩
theorem Into.nn {n E E' w} (h:Into n E E' w) {k:IntKind} {l:List Int} {x:Value} (hx:NnR E w k l x):NnR E' w k l x:=by
  obtain ⟨b,o,c,rfl,h1,h2,h3⟩:=hx
  exact ⟨b,o,c,rfl,h.ok b h1,h2,h3⟩
theorem Into.int {n E E' w} (h:Into n E E' w) {z:Int} {cs:List Value} (hx:IntR E w z cs):IntR E' w z cs:=by
  rcases hx with hx|⟨ds,b,o,c,rfl,h1,h2,h3,h4⟩
  · exact .inl hx
  · exact .inr ⟨ds,b,o,c,rfl,h.ok b h1,h2,h3,h4⟩
mutual
theorem Into.leaf {n E E' w} (h:Into n E E' w):∀{l:Leaf} {cs:List Value},l.cl n→l.R E w cs→l.R E' w cs
  | .v _,_,_,hx=>hx
  | .u,_,_,hx=>hx
  | .ptr _ _ _ _,_,hc,hx=>by obtain ⟨k,a,b⟩:=hx;exact ⟨k,h.ρ _ _ hc a,b⟩
  | .own _ _ _ _ _,_,hc,hx=>by obtain ⟨k,a,b⟩:=hx;exact ⟨k,h.ρ _ _ hc a,b⟩
  | .gr _ _ _ _, _, hc, hx => by
    rcases hx with hx|⟨k,a,b⟩
    · exact .inl ⟨hx.1,hx.2.1,hx.2.2.mono h.ok⟩
    · exact .inr ⟨k,h.ρ _ _ hc a,b⟩
  | .pp x,_,_,hx=>by obtain ⟨b,o,es,a,c,d,e⟩:=hx;exact ⟨b,o,es,a,h.ok b c,Into.shutl h.shut d,e⟩
  | .int z,_,_,hx=>h.int (z:=z) hx
  | .frac q,_,_,hx=>by obtain ⟨xs,ys,a,b,c⟩:=hx;exact ⟨xs,ys,a,h.int b,h.int c⟩
  | .rint z,_,_,hx=>by obtain ⟨ds,x,a,b,c⟩:=hx;exact ⟨ds,x,a,h.ints b,c⟩
  | .ints k l,_,_,hx=>by obtain ⟨x,a,b⟩:=hx;exact ⟨x,a,h.ints b⟩
  | .nn k l,_,_,hx=>by obtain ⟨x,a,b⟩:=hx;exact ⟨x,a,h.nn b⟩
  | .row sz m g, _, _, hx => by
    rcases hx with hx|⟨b,o,c,a,hb,hn,hg⟩
    · exact .inl hx
    · refine .inr ⟨b,o,c,a,h.ok b hb,hn,fun i hi=>?_⟩
      obtain ⟨es,h0,h1,h2⟩:=hg i hi
      exact ⟨es,h0,Into.shutl h.shut h1,h2⟩
  | .fn f a b,_,hc,hx=>by obtain ⟨xs,ys,e,h1,h2⟩:=hx;exact ⟨xs,ys,e,Into.leaves h hc.1 h1,Into.leaves h hc.2 h2⟩
theorem Into.shutf {E E':Env} {w:World} (h:Into 0 E.shut E'.shut w):∀{l:Leaf} {cs:List Value},l.R E.shut w cs→l.R E'.shut w cs
  | .v _,_,hx=>hx
  | .u,_,hx=>hx
  | .ptr _ _ _ _,_,hx=>by obtain ⟨k,a,b⟩:=hx;cases a
  | .own _ _ _ _ _,_,hx=>by obtain ⟨k,a,b⟩:=hx;cases a
  | .gr _ _ _ _, _, hx => by
    rcases hx with hx|⟨k,a,b⟩
    · exact .inl ⟨hx.1,hx.2.1,hx.2.2.mono h.ok⟩
    · cases a
  | .pp x,_,hx=>by obtain ⟨b,o,es,a,c,d,e⟩:=hx;exact ⟨b,o,es,a,h.ok b c,Into.shutl h.shut d,e⟩
  | .int z,_,hx=>h.int (z:=z) hx
  | .frac q,_,hx=>by obtain ⟨xs,ys,a,b,c⟩:=hx;exact ⟨xs,ys,a,h.int b,h.int c⟩
  | .rint z,_,hx=>by obtain ⟨ds,x,a,b,c⟩:=hx;exact ⟨ds,x,a,h.ints b,c⟩
  | .ints k l,_,hx=>by obtain ⟨x,a,b⟩:=hx;exact ⟨x,a,h.ints b⟩
  | .nn k l,_,hx=>by obtain ⟨x,a,b⟩:=hx;exact ⟨x,a,h.nn b⟩
  | .row sz m g, _, hx => by
    rcases hx with hx|⟨b,o,c,a,hb,hn,hg⟩
    · exact .inl hx
    · refine .inr ⟨b,o,c,a,h.ok b hb,hn,fun i hi=>?_⟩
      obtain ⟨es,h0,h1,h2⟩:=hg i hi
      exact ⟨es,h0,Into.shutl h.shut h1,h2⟩
  | .fn f a b,_,hx=>by obtain ⟨xs,ys,e,h1,h2⟩:=hx;exact ⟨xs,ys,e,Into.shutl h h1,Into.shutl h h2⟩
theorem Into.shutl {E E':Env} {w:World} (h:Into 0 E.shut E'.shut w):∀{ls:List Leaf} {cs:List Value},LeavesR E.shut w ls cs→LeavesR E'.shut w ls cs
  | [],_,hx=>hx
  | _ :: _,_,hx=>by obtain ⟨xs,ys,a,b,c⟩:=hx;exact ⟨xs,ys,a,Into.shutf h b,Into.shutl h c⟩
theorem Into.leaves {n E E' w} (h:Into n E E' w):∀{ls:List Leaf} {cs:List Value},clL n ls→LeavesR E w ls cs→LeavesR E' w ls cs
  | [],_,_,hx=>hx
  | _ :: _,_,hc,hx=>by obtain ⟨xs,ys,a,b,c⟩:=hx;exact ⟨xs,ys,a,Into.leaf h hc.1 b,Into.leaves h hc.2 c⟩
end
mutual
theorem Into.rv {n E E' w} (h:Into n E E' w):∀{x:AV} {v:Value},x.cl n→RV E w x v→RV E' w x v
  | .one _,_,hc,hx=>⟨hx.1,h.leaf hc hx.2⟩
  | .agg _,_,hc,hx=>by obtain ⟨cs,a,b⟩:=hx;exact ⟨cs,a,h.leaves hc b⟩
  | .tup _,_,hc,hx=>by obtain ⟨vs,a,b⟩:=hx;exact ⟨vs,a,Into.rvs h hc b⟩
  | .u,_,_,_=>trivial
theorem Into.rvs {n E E' w} (h:Into n E E' w):∀{xs:List AV} {vs:List Value},clV n xs→RVs E w xs vs→RVs E' w xs vs
  | [],_,_,hx=>hx
  | _ :: _,_,hc,hx=>by obtain ⟨v,r,a,b,c⟩:=hx;exact ⟨v,r,a,Into.rv h hc.1 b,Into.rvs h hc.2 c⟩
end
def Leaf.clB:Leaf→Bool
  | .ptr _ _ _ _=>false
  | .own _ _ _ _ _=>false
  | .gr _ _ _ _=>false
  | .fn _ _ _=>false
  | _=>true
theorem clL_of:∀{ls:List Leaf},ls.all Leaf.clB=true→clL 0 ls
  | [],_=>trivial
  | l :: ls, h => by
    simp only [List.all_cons,Bool.and_eq_true] at h
    refine ⟨?_,clL_of h.2⟩
    have:=h.1
    cases l <;> first|trivial|cases this
def Sub (x y:AV):Prop:=∀E w v,RV E w x v→RV E w y v
def SubL:List AV→List AV→Prop
  | [],[]=>True
  | x :: xs,y :: ys=>Sub x y∧SubL xs ys
  | _,_=>False
theorem Sub.refl (x:AV):Sub x x:=fun _ _ _ h=>h
theorem SubL.refl:∀xs:List AV,SubL xs xs
  | []=>trivial
  | x :: xs=>⟨Sub.refl x,SubL.refl xs⟩
theorem SubL.rvs {E:Env} {w:World}:∀{xs ys:List AV} {vs:List Value},SubL xs ys→RVs E w xs vs→RVs E w ys vs
  | [],[],_,_,h=>h
  | [],_ :: _,_,h,_=>h.elim
  | _ :: _,[],_,h,_=>h.elim
  | _ :: _,_ :: _,_,h,hx=>by obtain ⟨v,r,a,b,c⟩:=hx;exact ⟨v,r,a,h.1 _ _ _ b,SubL.rvs h.2 c⟩
def Callable (P:Program) (f:FuncId):Prop:=∃fn,P.funcs[f]?=some fn∧(fn.name == "runtime.NumGoroutine")=false∧fn.body.isNone=false
structure Spec (P:Program) (G:World→Prop) (f:FuncId) (nb:Nat) (h:Nat→Option Box) (args:List AV) (r:AV):Prop where
  callable:Callable P f
  cl:clV nb args∧r.cl nb
  calls:∀(E:Env) (w:World) (vs:List Value),(∀b,nb≤b→E.ρ b=none)→EnvOk E w→G w→(∀b bx,h b=some bx→BoxR E w b bx)→RVs E w args vs→
    Calls P f vs.toArray w fun e w'=>∃v,e= .returned v∧RV E w' r v∧Below w.heap.size w w'
def noBox (_:Nat):Option Box:=none
abbrev Pure (P:Program) (G:World→Prop) (f:FuncId) (args:List AV) (r:AV):Prop:=Spec P G f 0 noBox args r
theorem into_shut (E:Env) (w:World):Into 0 E E.shut w:=⟨fun _ _ h=>absurd h (by omega),fun _ h=>shut_ok.2 h⟩
theorem of_shut (E:Env) (w:World):Into 0 E.shut E w:=⟨fun _ _ h=>absurd h (by omega),fun _ h=>shut_ok.1 h⟩
theorem EnvOk.shut {E:Env} {w:World} (h:EnvOk E w):EnvOk E.shut w:=
  ⟨fun k hk=>hk.elim (h.m k) (fun ⟨b,hb⟩=>h.r b k hb),(fun _ _ h=>(by cases h)),(fun _ _ _ h=>(by cases h))⟩
variable {P:Program} {G:World→Prop}
theorem Pure.use {f:FuncId} {args:List AV} {r:AV} (s:Pure P G f args r) {E:Env} {w:World} {vs:List Value} (hE:EnvOk E w) (hG:G w) (h:RVs E w args vs) :
    Calls P f vs.toArray w fun e w'=>∃v,e= .returned v∧RV E w' r v∧Below w.heap.size w w':=
  (s.calls E.shut w vs (fun _ _=>rfl) hE.shut hG (fun _ _ h=>by cases h) ((into_shut E w).rvs s.cl.1 h)).mono fun e w' ⟨v,h1,h2,h3⟩=>
    ⟨v,h1,(of_shut E w').rv s.cl.2 h2,h3⟩
theorem RVs_map {E:Env} {w:World} {ev:Operand→AV} {f:Operand→Value}:∀(xs:List Operand),(∀x∈xs,RV E w (ev x) (f x))→RVs E w (xs.map ev) (xs.map f)
  | [],_=>rfl
  | x :: xs,h=>⟨f x,xs.map f,rfl,h x (by simp),RVs_map xs fun y hy=>h y (by simp [hy])⟩
def CallsTo (P:Program) (o:Oper) (ev:Operand→AV) (f:FuncId) (xs:List AV):Prop:=
  ∀(E:Env) (w:World) (a:Act),(∀x∈o.op.operands,RV E w (ev x) (a.eval x))→∃vs:List Value,RVs E w xs vs∧(execOp a.eval o).run P w=(callFunc f vs.toArray).run P w
theorem calls_direct {f:FuncId} {o:Oper} {args:Array Operand} {ats:Array TypeId} (ho:o.op= .call { callee:=.value (.func f),args,argTypes:=ats }) {ev:Operand→AV}:CallsTo P o ev f (args.toList.map ev):=by
  intro E w a hops
  refine ⟨args.toList.map a.eval,RVs_map args.toList fun y hy=>hops y ?_,?_⟩
  · rw [ho]
    show y∈#[Operand.func f]++args
    exact Array.mem_append.2 (.inr (by simpa using hy))
  · have e:(args.toList.map a.eval).toArray=args.map a.eval:=by rw [←Array.toList_map]
    rw [e]
    unfold execOp
    rw [ho]
    dsimp only
    simp only [resolve,Act.eval,Deferred.ofValue,Sem.run_bind,Sem.run_pure,Result.andThen_ok,invoke]
    simp
theorem RVs_app {E:Env} {w:World}:∀{xs ys:List AV} {us vs:List Value},RVs E w xs us→RVs E w ys vs→RVs E w (xs++ys) (us++vs)
  | [],_,us,_,h,g=>by obtain rfl:us= []:=h;exact g
  | _ :: _,_,_,_,⟨v,r,e,h1,h2⟩,g=>⟨v,r++_,by rw [e];rfl,h1,RVs_app h2 g⟩
theorem RVs_leaves {E:Env} {w:World}:∀{ls:List Leaf} {cs:List Value},(ls.all fun l=>Nat.beq l.size 1)=true→LeavesR E w ls cs→RVs E w (ls.map AV.one) cs
  | [],_,_,h=>h
  | l :: ls, cs, hs, ⟨xs, ys, e, h1, h2⟩ => by
    simp only [List.all_cons,Bool.and_eq_true] at hs
    have h3:=(Leaf.R_len h1).1
    rw [Nat.eq_of_beq_eq_true hs.1] at h3
    match xs,h3 with
    | [x],_=>exact ⟨x,ys,e,⟨Nat.eq_of_beq_eq_true hs.1,h1⟩,RVs_leaves hs.2 h2⟩
theorem calls_value {f:FuncId} {o:Oper} {t:Operand} {args:Array Operand} {ats:Array TypeId} (ho:o.op= .call { callee:=.value t,args,argTypes:=ats }) {ev:Operand→AV} {fs cs:List Leaf} (ht:ev t= .one (.fn (.func f) fs cs))
    (h1:(fs.all fun l=>Nat.beq l.size 1)=true) (h2:(cs.all fun l=>Nat.beq l.size 1)=true):CallsTo P o ev f (fs.map AV.one++args.toList.map ev++cs.map AV.one):=by
  intro E w a hops
  have hf:=hops t (by rw [ho];show t∈#[t]++args;simp)
  rw [ht] at hf
  obtain ⟨_,xs,ys,h3,h4,h5⟩:=hf
  simp only [List.cons.injEq,and_true] at h3
  refine ⟨xs++args.toList.map a.eval++ys,RVs_app (RVs_app (RVs_leaves h1 h4) (RVs_map args.toList fun y hy=>hops y ?_)) (RVs_leaves h2 h5),?_⟩
  · rw [ho]
    show y∈#[t]++args
    exact Array.mem_append.2 (.inr (by simpa using hy))
  · have e:(xs++args.toList.map a.eval++ys).toArray=xs.toArray++args.map a.eval++ys.toArray:=by
      apply Array.ext';simp
    rw [e]
    unfold execOp
    rw [ho]
    dsimp only
    simp only [resolve,h3,Deferred.ofValue,Sem.run_bind,Sem.run_pure,Result.andThen_ok,invoke]
theorem run_enter {f:FuncId} (hf:Callable P f) (vs:Array Value) (w:World):(callFunc f vs).run P w= .ok (.enter f vs) w:=by
  obtain ⟨fn,h1,h2,h3⟩:=hf
  simp only [callFunc,program,Sem.run_bind,Sem.run,Sem.run_pure,Result.andThen_ok,h1,h2,h3]
  simp
theorem step_call {f:FuncId} {xs:List AV} {r:AV} (s:Pure P G f xs r) {o:Oper} {ev:Operand→AV} {xs':List AV} (ho:CallsTo P o ev f xs') (hx:SubL xs' xs) (H:Nat→Option Box):StepSound P G o ev H { val:=r }:=by
  intro nn ro E w a K Q hdf hE hG hops _ _ hK
  obtain ⟨us,hus,hrun⟩:=ho E w a hops
  refine wpIn_open hdf ?_
  rw [hrun,run_enter s.callable]
  rw [Oper.uponIn_enter]
  refine ⟨fun hh=>by simp [WF] at hh,callsIn_all ?_⟩
  have h1:RVs E w xs us:=hx.rvs hus
  have h2:=s.use hE hG h1
  refine h2.mono fun e w' ⟨v,h3,h4,h5⟩=>?_
  subst h3
  exact hK v E w' h4 ⟨rfl,h5⟩
/-! ## A function that hands back a row of its own; one that writes a row of its caller's -/
structure FreshC (P:Program) (G:World→Prop) (f:FuncId) (args:List AV) (sz m n c:Nat) (g:Nat→List Leaf):Prop where
  callable:Callable P f
  cl:clV 0 args
  gcl:∀i,i < m→clL 0 (g i)
  calls:∀(E:Env) (w:World) (vs:List Value),(∀b,E.ρ b=none)→EnvOk E w→G w→RVs E w args vs→
    Calls P f vs.toArray w fun e w'=>∃k,e= .returned (.slice (some ⟨k,0,none⟩) n c)∧w.heap.size≤k∧k < w'.heap.size∧Below w.heap.size w w'∧BoxR (E.add 0 k) w' 0 ⟨sz,m,g,false⟩
theorem BoxR.into {E E':Env} {w:World} {b b':Nat} {bx:Box} (hi:Into 0 E E' w) (hcl:∀i,i < bx.n→clL 0 (bx.g i)) (h:BoxR E w b bx) (hk:∀k,E.ρ b=some k→E'.ρ b'=some k):BoxR E' w b' bx:=by
  rcases h with h|⟨k,c,T,h1,h2,h3,h4⟩
  · exact .inl h
  refine .inr ⟨k,c,T,hk k h1,h2,h3,fun i hi'=>?_⟩
  obtain ⟨es,h5,h6,h7⟩:=h4 i hi'
  exact ⟨es,h5,hi.leaves (hcl i hi') h6,h7⟩
structure WriteC (P:Program) (G:World→Prop) (f:FuncId) (bx:Box) (args:List AV) (r:AV) (bx':Box):Prop where
  nro:bx.ro=false
  callable:Callable P f
  one:∀x∈args,∃l:Leaf,x= .one l∧((∃sz i n c,l= .own 0 sz i n c)∨l.clB=true)
  cl:r.cl 0
  bcl:(∀i,i < bx.n→clL 0 (bx.g i))∧∀i,i < bx'.n→clL 0 (bx'.g i)
  calls:∀(E:Env) (w:World) (vs:List Value) (k:Nat),(∀b,b≠0→E.ρ b=none)→E.ρ 0=some k→EnvOk E w→¬E.M k→G w→BoxR E w 0 bx→RVs E w args vs→
    Calls P f vs.toArray w fun e w'=>∃v,e= .returned v∧RV E w' r v∧Wrote k w w'∧BoxR E w' 0 bx'
def Env.only (E:Env) (b:Nat):Env:={ ρ:=fun x=>if x=0 then E.ρ b else none,M:=fun j=>(E.M j∨∃x,E.ρ x=some j)∧E.ρ b≠some j }
/-! ## A function that reads variables of its caller's -/
/-! ## Addresses of parts -/
theorem fieldPlace_run {w:World} {k o:Nat} {f:Field} (h:0 < P.cellsOf f.type):(fieldPlace ⟨k,o,none⟩ f).run P w= .ok ⟨k,o+f.offset,none⟩ w:=by
  unfold Program.cellsOf at h
  cases hi:P.info? f.type with
  | none=>simp [hi] at h
  | some i =>
    have:i.size≠0:=by simp [hi] at h;omega
    simp [fieldPlace,sizeOf,typeInfo,hi,this,Addr.add_mid]
theorem tyI_struct {t:TypeId} {ti:TyI} (h:tyI P t=some ti) {offs:List (Nat×Nat×Bool)} (hk:ti.kind= .struct offs) {i:Nat} {d c:Nat} {b:Bool} (hi:offs[i]?=some (d,c,b)) :
    ∃fs f,P.underlying t=some (.struct fs)∧fs[i]?=some f∧f.offset=d∧P.cellsOf f.type=c∧((P.underlying f.type).map (·.isRow)).getD false=b:=by
  unfold tyI at h
  split at h
  · rename_i i' d' h1 h2
    cases h
    dsimp only at hk
    split at hk <;> try (cases hk;done)
    rename_i fs
    cases hk
    simp only [List.getElem?_map,Array.getElem?_toList,Option.map_eq_some_iff] at hi
    obtain ⟨f,h3,h4⟩:=hi
    simp only [Prod.mk.injEq] at h4
    exact ⟨fs,f,h2,h3,h4.1,h4.2.1,h4.2.2⟩
  · cases h
theorem step_fieldAddr {o:Oper} {T:TypeId} {x:Operand} {f:Nat} (ho:o.op= .fieldAddr T x f) {ev:Operand→AV} {b sz i off:Nat} (hx:ev x= .one (.ptr b sz i off)) (H:Nat→Option Box)
    {ti:TyI} (ht:tyI P T=some ti) {offs:List (Nat×Nat×Bool)} (hk:ti.kind= .struct offs) {d c:Nat} {r:Bool} (hf:offs[f]?=some (d,c,r)) (hc:0 < c) :
    StepSound P G o ev H { val:=.one (.ptr b sz i (off+d)) }:=by
  refine step_value fun E w a _ _ hops _=>?_
  have h1:=hops x (by rw [ho];simp [Op.operands])
  rw [hx] at h1
  obtain ⟨_,k,h2,h3⟩:=h1
  simp only [List.cons.injEq,and_true] at h3
  obtain ⟨fs,fd,h4,h5,h6,h7,_⟩:=tyI_struct ht hk hf
  refine ⟨.pointer (some ⟨k,i*sz+(off+d),none⟩),?_,rfl,k,h2,rfl⟩
  unfold execOp;rw [ho];dsimp only;rw [h3]
  simp only [Instr.fieldAt,Instr.sureAddr,Sem.run_bind,run_underlying h4,Result.andThen_ok,h5,Sem.run_pure,fieldPlace_run (P:=P) (by rw [h7];exact hc),h6,Nat.add_assoc]
theorem step_fieldAddr_pp {o:Oper} {T:TypeId} {x:Operand} {f:Nat} (ho:o.op= .fieldAddr T x f) {ev:Operand→AV} {xs ys:List Leaf} (hx:ev x= .one (.pp xs)) (H:Nat→Option Box)
    {ti:TyI} (ht:tyI P T=some ti) {offs:List (Nat×Nat×Bool)} (hk:ti.kind= .struct offs) {d c:Nat} {r:Bool} (hf:offs[f]?=some (d,c,r)) (hc:0 < c) (hy:dropL xs d=some ys) :
    StepSound P G o ev H { val:=.one (.pp ys) }:=by
  refine step_value fun E w a _ _ hops _=>?_
  have h1:=hops x (by rw [ho];simp [Op.operands])
  rw [hx] at h1
  obtain ⟨_,k,off,es,h2,h3,h3',h3''⟩:=h1
  simp only [List.cons.injEq,and_true] at h2
  obtain ⟨fs,fd,h4,h5,h6,h7,_⟩:=tyI_struct ht hk hf
  refine ⟨.pointer (some ⟨k,off+d,none⟩),?_,rfl,k,off+d,es.drop d,rfl,h3,dropL_R h3' hy,fun j v hv=>?_⟩
  · unfold execOp;rw [ho];dsimp only;rw [h2]
    simp only [Instr.fieldAt,Instr.sureAddr,Sem.run_bind,run_underlying h4,Result.andThen_ok,h5,Sem.run_pure,fieldPlace_run (P:=P) (by rw [h7];exact hc),h6]
  · rw [List.getElem?_drop] at hv
    have:=h3'' _ _ hv
    rwa [←Nat.add_assoc] at this
theorem run_part {w:World} {t:TypeId} {cs:List Value} {off:Nat} {r:Bool} (hr:((P.underlying t).map (·.isRow)).getD false=r) (hc:0 < P.cellsOf t) (hu:P.underlying t≠none) {E:Env} {ls:List Leaf}
    (hls:LeavesR E w ls ((cs.drop off).take (P.cellsOf t))) (hle:off+P.cellsOf t≤cs.length) {y:AV} (hy:mkAV r ls=some y) (hsz:r=false→P.cellsOf t=1):∃v,(part t cs.toArray off).run P w= .ok v w∧RV E w y v:=by
  cases hd:P.underlying t with
  | none=>exact absurd hd hu
  | some d =>
    rw [hd] at hr
    simp only [Option.map_some,Option.getD_some] at hr
    have hag:=run_isAgg hd w
    unfold part
    cases hr':r with
    | true =>
      rw [hr'] at hy hr;cases hy
      have:∃i,P.info? t=some i∧i.size=P.cellsOf t:=by
        unfold Program.cellsOf at hc ⊢
        cases hi:P.info? t with
        | none=>simp [hi] at hc
        | some i=>exact ⟨i,rfl,by simp⟩
      obtain ⟨i,hi,hs⟩:=this
      refine ⟨.agg ((cs.drop off).take (P.cellsOf t)).toArray,?_,_,rfl,hls⟩
      simp [hag,hr,sizeOf,typeInfo,hi,hs]
    | false =>
      rw [hr'] at hy hr
      match ls,hls,hy with
      | [l], hls, hy =>
        simp only [mkAV] at hy
        split at hy
        · rename_i h5
          have h5:=Nat.eq_of_beq_eq_true h5
          cases hy
          obtain ⟨xs,ys,hxy,h6,h7⟩:=hls
          obtain rfl:ys= []:=h7
          rw [hsz hr',List.append_nil] at hxy
          have hl:off < cs.length:=by omega
          have:(cs.drop off).take 1= [cs[off]]:=by
            rw [List.drop_eq_getElem_cons hl];rfl
          rw [this] at hxy
          refine ⟨cs[off],?_,h5,hxy ▸ h6⟩
          simp [hag,hr,hl]
        · cases hy
theorem step_field {o:Oper} {T:TypeId} {x:Operand} {f:Nat} (ho:o.op= .field T x f) {ev:Operand→AV} {xs ls:List Leaf} (hx:ev x= .agg xs) (H:Nat→Option Box)
    {ti:TyI} (ht:tyI P T=some ti) {offs:List (Nat×Nat×Bool)} (hk:ti.kind= .struct offs) {d c:Nat} {r:Bool} (hf:offs[f]?=some (d,c,r)) (hc:0 < c) (hls:subL xs d c=some ls)
    {y:AV} (hy:mkAV r ls=some y) (hsz:r=false→c=1) (hu:∀fs fd,P.underlying T=some (.struct fs)→fs[f]?=some fd→P.underlying fd.type≠none):StepSound P G o ev H { val:=y }:=by
  refine step_value fun E w a _ _ hops _=>?_
  have h1:=hops x (by rw [ho];simp [Op.operands])
  rw [hx] at h1
  obtain ⟨cs,h2,h3⟩:=h1
  obtain ⟨fs,fd,h4,h5,h6,h7,h8⟩:=tyI_struct ht hk hf
  rcases subL_R h3 hls with ⟨h11,h12⟩|⟨h11,_⟩
  · subst h7
    obtain ⟨v,h13,h14⟩:=run_part (P:=P) (t:=fd.type) (off:=d) h8 hc (hu fs fd h4 h5) h11 h12 hy hsz
    refine ⟨v,?_,h14⟩
    unfold execOp;rw [ho];dsimp only;rw [h2]
    simp only [Instr.field,Sem.run_bind,run_underlying h4,Result.andThen_ok,h5,asAgg,Sem.run_pure,h6,h13]
  · omega
-- axioms of step_field
-- axioms of step_call
end Go.Ax
end
section
namespace Go.Ax
open Go.RowKit (Below)
variable {P:Program} {G:World→Prop}
def sameK:IntKind→IntKind→Bool
  | .i64,.i64=>true
  | .u64,.u64=>true
  | .u8,.u8=>true
  | .i32,.i32=>true
  | .u32,.u32=>true
  | .i8,.i8=>true
  | .i16,.i16=>true
  | .u16,.u16=>true
  | _,_=>false
theorem sameK_eq {a b:IntKind} (h:sameK a b=true):a=b:=by cases a <;> cases b <;> first|rfl|cases h
def intBin (op:BinOp) (k:IntKind) (a b:Int):Option (Prop×Value):=
  match op with
  | .add=>some (True,.int k (k.wrap (a+b)))
  | .sub=>some (True,.int k (k.wrap (a - b)))
  | .mul=>some (True,.int k (k.wrap (a*b)))
  | .quo=>some (b≠0,.int k (k.wrap (a.tdiv b)))
  | .rem=>some (b≠0,.int k (a.tmod b))
  | .eql=>some (True,.bool (a == b))
  | .neq=>some (True,.bool (a != b))
  | .lss=>some (True,.bool (decide (a < b)))
  | .leq=>some (True,.bool (decide (a≤b)))
  | .gtr=>some (True,.bool (decide (b < a)))
  | .geq=>some (True,.bool (decide (b≤a)))
  | .and=>some (True,.int k (k.wrap (BitVec.ofInt k.bits a &&& BitVec.ofInt k.bits b).toNat))
  | .or=>some (True,.int k (k.wrap (BitVec.ofInt k.bits a ||| BitVec.ofInt k.bits b).toNat))
  | .xor=>some (True,.int k (k.wrap (BitVec.ofInt k.bits a ^^^ BitVec.ofInt k.bits b).toNat))
  | .andNot=>some (True,.int k (k.wrap (BitVec.ofInt k.bits a &&& ~~~(BitVec.ofInt k.bits b)).toNat))
  | _=>none
def nilS (a b:Nat):Bool:=match Nat.beq a 0,Nat.beq b 0 with
  | true,true=>true
  | _,_=>false
theorem nilS_eq {a b:Nat} (h:nilS a b=true):a=0∧b=0:=by
  unfold nilS at h
  split at h
  · rename_i h1 h2;exact ⟨Nat.eq_of_beq_eq_true h1,Nat.eq_of_beq_eq_true h2⟩
  · cases h
def binV (kind:TyK) (op:BinOp) (x y:Value):Option (Prop×Value):=
  match x,y with
  | .int k a, .int k' b => match op with
    | .shl=>some (0≤b,.int k (k.wrap (a*2 ^ (min b.toNat k.bits))))
    | .shr=>some (0≤b,.int k (a.fdiv (2 ^ (min b.toNat k.bits))))
    | op => match sameK k k' with
      | true=>intBin op k a b
      | false=>none
  | .string a, .string b => match op with
    | .add=>some (a.size+b.size≤9223372036854775807,.string (a++b))
    | .eql=>some (True,.bool (a.toList == b.toList))
    | .neq=>some (True,.bool (!(a.toList == b.toList)))
    | _=>none
  | .bool a, .bool b => match kind, op with
    | .bool,.eql=>some (True,.bool (a == b))
    | .bool,.neq=>some (True,.bool (a != b))
    | _,_=>none
  | .slice none a b, .slice none c d => match kind, op, nilS a b, nilS c d with
    | .slice _ _,.eql,true,true=>some (True,.bool true)
    | .slice _ _,.neq,true,true=>some (True,.bool false)
    | _,_,_,_=>none
  | _,_=>none
theorem tyI_bool {t:TypeId} {ti:TyI} (h:tyI P t=some ti) (hk:ti.kind= .bool):P.underlying t=some .bool:=by
  unfold tyI at h
  split at h
  · rename_i i d h1 h2
    cases h
    dsimp only at hk
    split at hk <;> try (cases hk;done)
    exact h2
  · cases h
theorem tyI_slice {t:TypeId} {ti:TyI} (h:tyI P t=some ti) {e sz:Nat} (hk:ti.kind= .slice e sz):P.underlying t=some (.slice e)∧P.cellsOf e=sz:=by
  unfold tyI at h
  split at h
  · rename_i i d h1 h2
    cases h
    dsimp only at hk
    split at hk <;> try (cases hk;done)
    cases hk
    exact ⟨h2,rfl⟩
  · cases h
theorem tyI_array {t:TypeId} {ti:TyI} (h:tyI P t=some ti) {n e sz:Nat} (hk:ti.kind= .array n e sz):P.underlying t=some (.array n e)∧P.cellsOf e=sz:=by
  unfold tyI at h
  split at h
  · rename_i i d h1 h2
    cases h
    dsimp only at hk
    split at hk <;> try (cases hk;done)
    cases hk
    exact ⟨h2,rfl⟩
  · cases h
theorem tyI_string {t:TypeId} {ti:TyI} (h:tyI P t=some ti) (hk:ti.kind= .string):P.underlying t=some .string:=by
  unfold tyI at h
  split at h
  · rename_i i d h1 h2
    cases h
    dsimp only at hk
    split at hk <;> try (cases hk;done)
    exact h2
  · cases h
theorem tyI_int {t:TypeId} {ti:TyI} (h:tyI P t=some ti) {k:IntKind} (hk:ti.kind= .int k):P.underlying t=some (.int k):=by
  unfold tyI at h
  split at h
  · rename_i i d h1 h2
    cases h
    dsimp only at hk
    split at hk <;> try (cases hk;done)
    cases hk
    exact h2
  · cases h
theorem cellsOf_info {t:TypeId} (h:0 < P.cellsOf t):∃i,P.info? t=some i∧i.size=P.cellsOf t:=by
  unfold Program.cellsOf at h ⊢
  cases hi:P.info? t with
  | none=>simp [hi] at h
  | some i=>exact ⟨i,rfl,by simp⟩
theorem run_intBin {op:BinOp} {k:IntKind} {a b:Int} {pre:Prop} {v:Value} (h:intBin op k a b=some (pre,v)) (hp:pre) (t:TypeId) (w:World) :
    (binOp op t (.int k a) (.int k b)).run P w= .ok v w:=by
  cases op <;> simp only [intBin] at h <;> (try cases h) <;> simp [binOp,Op.intArith,Op.intDiv,Op.intCmp,Op.intBits,hp]
theorem run_equalIn_bool {t:TypeId} (ht:P.underlying t=some .bool) (d:Nat) (a b:Bool) (w:World):(Op.equalIn (d+1) t (.bool a) (.bool b)).run P w= .ok (a == b) w:=by
  simp [Op.equalIn,run_underlying ht]
theorem run_equalIn_nil {t e:TypeId} (ht:P.underlying t=some (.slice e)) (d:Nat) (a:Option Addr) (n c:Nat) (w:World):(Op.equalIn (d+1) t (.slice a n c) (.slice none 0 0)).run P w= .ok a.isNone w:=by
  cases a <;> simp [Op.equalIn,run_underlying ht]
theorem run_eqlB {t:TypeId} (ht:P.underlying t=some .bool) (a b:Bool) (w:World):(binOp .eql t (.bool a) (.bool b)).run P w= .ok (.bool (a == b)) w:=by
  show (do pure (Value.bool (←Op.equalIn (9999+1) t (.bool a) (.bool b))):Sem Value).run P w=_
  simp only [Sem.run_bind,run_equalIn_bool ht,Result.andThen_ok,Sem.run_pure]
theorem run_neqB {t:TypeId} (ht:P.underlying t=some .bool) (a b:Bool) (w:World):(binOp .neq t (.bool a) (.bool b)).run P w= .ok (.bool (a != b)) w:=by
  show (do pure (Value.bool (!(←Op.equalIn (9999+1) t (.bool a) (.bool b)))):Sem Value).run P w=_
  simp only [Sem.run_bind,run_equalIn_bool ht,Result.andThen_ok,Sem.run_pure]
  rfl
theorem run_eqlN {t e:TypeId} (ht:P.underlying t=some (.slice e)) (a:Option Addr) (n c:Nat) (w:World):(binOp .eql t (.slice a n c) (.slice none 0 0)).run P w= .ok (.bool a.isNone) w:=by
  show (do pure (Value.bool (←Op.equalIn (9999+1) t (.slice a n c) (.slice none 0 0))):Sem Value).run P w=_
  simp only [Sem.run_bind,run_equalIn_nil ht,Result.andThen_ok,Sem.run_pure]
theorem run_neqN {t e:TypeId} (ht:P.underlying t=some (.slice e)) (a:Option Addr) (n c:Nat) (w:World):(binOp .neq t (.slice a n c) (.slice none 0 0)).run P w= .ok (.bool !a.isNone) w:=by
  show (do pure (Value.bool (!(←Op.equalIn (9999+1) t (.slice a n c) (.slice none 0 0)))):Sem Value).run P w=_
  simp only [Sem.run_bind,run_equalIn_nil ht,Result.andThen_ok,Sem.run_pure]
theorem run_binV {op:BinOp} {t:TypeId} {ti:TyI} (ht:tyI P t=some ti) {x y:Value} {pre:Prop} {v:Value} (h:binV ti.kind op x y=some (pre,v)) (hp:pre) (w:World) :
    (binOp op t x y).run P w= .ok v w:=by
  unfold binV at h
  split at h
  · rename_i k a k' b
    split at h
    · cases h
      have:¬b < 0:=by omega
      simp [binOp,Op.shift,this]
    · cases h
      have:¬b < 0:=by omega
      simp [binOp,Op.shift,this]
    · split at h
      · rename_i e;have e:=sameK_eq e;subst e;exact run_intBin h hp t w
      · cases h
  · rename_i a b
    split at h
    · cases h
      have:¬(((a.size+b.size:Nat):Int) > IntKind.i64.max):=by
        have:IntKind.i64.max=9223372036854775807:=rfl
        rw [this];omega
      simp only [binOp,Op.stringOp,this,if_false,Sem.run_pure]
    · cases h;simp [binOp,Op.stringOp]
    · cases h;simp [binOp,Op.stringOp]
    · cases h
  · rename_i a b
    split at h
    · rename_i hk
      cases h
      exact run_eqlB (tyI_bool ht hk) a b w
    · rename_i hk
      cases h
      exact run_neqB (tyI_bool ht hk) a b w
    · cases h
  · split at h
    · rename_i hk h1 h2
      obtain ⟨rfl,rfl⟩:=nilS_eq h1
      obtain ⟨rfl,rfl⟩:=nilS_eq h2
      cases h
      exact run_eqlN (tyI_slice ht hk).1 none 0 0 w
    · rename_i hk h1 h2
      obtain ⟨rfl,rfl⟩:=nilS_eq h1
      obtain ⟨rfl,rfl⟩:=nilS_eq h2
      cases h
      exact run_neqN (tyI_slice ht hk).1 none 0 0 w
    · cases h
  · cases h
theorem run_eqGuard {op:BinOp} {t:TypeId} {x y:Operand} {a b:Value} (ha:a.oneCell'=true) (hni:a≠.nilIface) (w:World):(eqGuard op t x y a b).run P w= .ok () w:=by
  unfold eqGuard
  cases op <;> first
    | rfl
    | (cases a <;> first|(exact absurd rfl hni)|(cases ha;done)|rfl)
theorem step_binV {o:Oper} {op:BinOp} {T T':TypeId} {x y:Operand} (ho:o.op= .binOp op T x y T') {ev:Operand→AV} {a b:Value} (hx:ev x= .one (.v a)) (hy:ev y= .one (.v b)) (H:Nat→Option Box)
    {ti:TyI} (ht:tyI P T=some ti) {pre:Prop} {v:Value} (h:binV ti.kind op a b=some (pre,v)) (hp:pre) (hv:v.oneCell'=true):StepSound P G o ev H { val:=.one (.v v) }:=by
  refine step_value fun E w ac _ _ hops _=>⟨v,?_,rfl,rfl,hv⟩
  have h1:=hops x (by rw [ho];simp [Op.operands])
  have h2:=hops y (by rw [ho];simp [Op.operands])
  rw [hx] at h1;rw [hy] at h2
  obtain ⟨_,h1,h1'⟩:=h1
  obtain ⟨_,h2,_⟩:=h2
  simp only [List.cons.injEq,and_true] at h1 h2
  have hni:a≠.nilIface:=by
    intro e;subst e
    unfold binV at h
    simp at h
  unfold execOp;rw [ho];dsimp only
  rw [h1,h2]
  simp only [Sem.run_bind,run_eqGuard (h1 ▸ h1') hni,Result.andThen_ok,run_binV ht h hp,Sem.run_pure]
theorem step_nn_nil {o:Oper} {op:BinOp} {T T':TypeId} {x y:Operand} (ho:o.op= .binOp op T x y T') {ev:Operand→AV} {k:IntKind} {l:List Int} (hx:ev x= .one (.nn k l)) (hy:ev y= .one (.v (.slice none 0 0))) (H:Nat→Option Box)
    {ti:TyI} (ht:tyI P T=some ti) {e sz:Nat} (hk:ti.kind= .slice e sz) {r:Bool} (hr:op= .eql∧r=false∨op= .neq∧r=true):StepSound P G o ev H { val:=.one (.v (.bool r)) }:=by
  refine step_value fun E w ac _ _ hops _=>⟨.bool r,?_,rfl,rfl,rfl⟩
  have h1:=hops x (by rw [ho];simp [Op.operands])
  have h2:=hops y (by rw [ho];simp [Op.operands])
  rw [hx] at h1;rw [hy] at h2
  obtain ⟨_,v,h1,b,off,c,h3,_⟩:=h1
  obtain ⟨_,h2,_⟩:=h2
  simp only [List.cons.injEq,and_true] at h1 h2
  subst h3
  unfold execOp;rw [ho];dsimp only
  rw [h1,h2]
  rcases hr with ⟨rfl,rfl⟩|⟨rfl,rfl⟩<;>
    simp only [run_eqGuard (P:=P) (a:=.slice (some ⟨b,off,none⟩) l.length c) rfl (by simp),Sem.run_bind,Result.andThen_ok,run_eqlN (tyI_slice ht hk).1,run_neqN (tyI_slice ht hk).1,Sem.run_pure,Option.isNone_some,Bool.not_false]
def unV (op:UnOp) (x:Value):Option Value:=
  match op,x with
  | .neg,.int k n=>some (.int k (k.wrap (0 - n)))
  | .not,.bool b=>some (.bool !b)
  | _,_=>none
theorem step_unV {o:Oper} {op:UnOp} {T:TypeId} {x:Operand} (ho:o.op= .unOp op T x) {ev:Operand→AV} {a:Value} (hx:ev x= .one (.v a)) (H:Nat→Option Box) {v:Value} (h:unV op a=some v) :
    StepSound P G o ev H { val:=.one (.v v) }:=by
  have hv:v.oneCell'=true:=by unfold unV at h;split at h <;> cases h <;> rfl
  refine step_value fun E w ac _ _ hops _=>⟨v,?_,rfl,rfl,hv⟩
  have h1:=hops x (by rw [ho];simp [Op.operands])
  rw [hx] at h1
  obtain ⟨_,h1,h1'⟩:=h1
  simp only [List.cons.injEq,and_true] at h1
  unfold execOp;rw [ho];dsimp only
  rw [h1]
  unfold unV at h
  split at h <;> cases h <;> simp [Op.unary,Op.intArith]
def convV (src dst:TyK) (x:Value):Option Value:=
  match src,dst,x with
  | .int _,.int k,.int _ n=>some (.int k (k.wrap n))
  | .string,.string,.string s=>some (.string s)
  | _,_,_=>none
theorem step_convV {o:Oper} {S T:TypeId} {x:Operand} (ho:o.op= .convert S T x) {ev:Operand→AV} {a:Value} (hx:ev x= .one (.v a)) (H:Nat→Option Box) {si ti:TyI} (hs:tyI P S=some si) (ht:tyI P T=some ti)
    {v:Value} (h:convV si.kind ti.kind a=some v):StepSound P G o ev H { val:=.one (.v v) }:=by
  have hv:v.oneCell'=true:=by unfold convV at h;split at h <;> cases h <;> rfl
  refine step_value fun E w ac _ _ hops _=>⟨v,?_,rfl,rfl,hv⟩
  have h1:=hops x (by rw [ho];simp [Op.operands])
  rw [hx] at h1
  obtain ⟨_,h1,h1'⟩:=h1
  simp only [List.cons.injEq,and_true] at h1
  unfold execOp;rw [ho];dsimp only
  rw [h1]
  unfold convV at h
  split at h
  · rename_i k0 k k1 n e1 e2 _
    cases h
    simp [convert,run_underlying (tyI_int hs e1),run_underlying (tyI_int ht e2),Conv.intToInt]
  · rename_i s e1 e2 _
    cases h
    simp [convert,run_underlying (tyI_string hs e1),run_underlying (tyI_string ht e2)]
  · cases h
theorem RVs_get {E:Env} {w:World}:∀{xs:List AV} {vs:List Value} {i:Nat} {x:AV},RVs E w xs vs→xs[i]?=some x→∃v,vs[i]?=some v∧RV E w x v
  | [],_,_,_,_,h=>by simp at h
  | _ :: _,_,0,_,h,e=>by obtain ⟨v,r,rfl,h1,_⟩:=h;simp at e;subst e;exact ⟨v,by simp,h1⟩
  | _ :: _,_,i+1,_,h,e=>by obtain ⟨v,r,rfl,_,h2⟩:=h;simpa using RVs_get h2 (by simpa using e)
theorem step_extract {o:Oper} {x:Operand} {i:Nat} (ho:o.op= .extract x i) {ev:Operand→AV} {xs:List AV} (hx:ev x= .tup xs) (H:Nat→Option Box) {y:AV} (hy:xs[i]?=some y):StepSound P G o ev H { val:=y }:=by
  refine step_value fun E w ac _ _ hops _=>?_
  have h1:=hops x (by rw [ho];simp [Op.operands])
  rw [hx] at h1
  obtain ⟨vs,h1,h2⟩:=h1
  obtain ⟨v,h3,h4⟩:=RVs_get h2 hy
  refine ⟨v,?_,h4⟩
  unfold execOp;rw [ho];dsimp only
  rw [h1]
  simp [Instr.extract,h3]
/-! ### len -/
def lenA:AV→Option Int
  | .one (.v (.string s))=>some s.size
  | .one (.v (.slice _ n _))=>some n
  | .one (.own _ _ _ n _)=>some n
  | .one (.gr _ _ n _)=>some n
  | .one (.ints _ l)=>some l.length
  | .one (.nn _ l)=>some l.length
  | .one (.row _ n _)=>some n
  | _=>none
theorem step_len {o:Oper} {x:Operand} {T:TypeId} {ats:Array TypeId} (ho:o.op= .call { callee:=.builtin .len,args:=#[x],argTypes:=ats }) (hT:ats[0]?=some T) {ev:Operand→AV} {n:Int} (hx:lenA (ev x)=some n) (H:Nat→Option Box)
    {ti:TyI} (ht:tyI P T=some ti) (hk:ti.kind= .string∧(∃s,ev x= .one (.v (.string s)))∨(∃e sz,ti.kind= .slice e sz)∧¬∃s,ev x= .one (.v (.string s))):StepSound P G o ev H { val:=.one (.v (.int .i64 n)) }:=by
  refine step_value fun E w ac _ _ hops _=>⟨.int .i64 n,?_,rfl,rfl,rfl⟩
  have h1:=hops x (by rw [ho];simp [Op.operands,Call.operands])
  unfold execOp;rw [ho]
  simp only [resolve,invoke,builtin,Builtin.len_,List.map_toArray,List.map_cons,List.map_nil,List.getElem?_toArray,List.getElem?_cons_zero,hT,Sem.run_bind,Sem.run_pure,Result.andThen_ok]
  have hs:∀a n' c,ac.eval x= .slice a n' c→(n':Int)=n→(¬∃s,ev x= .one (.v (.string s)))→
      ((do let __do_lift ←underlying T;match __do_lift,ac.eval x with| .slice _,.slice _ n _=>pure (goInt n)|_,_=>stuck "":Sem Value)).run P w= .ok (.int .i64 n) w:=by
    intro a n' c e1 e2 hn
    rcases hk with ⟨_,hk⟩|⟨⟨e,sz,hk⟩,_⟩
    · exact absurd hk hn
    · simp [run_underlying (tyI_slice ht hk).1,e1,goInt,e2]
  rcases hk with ⟨hk,s,hs'⟩|⟨⟨e,sz,hk⟩,hn⟩
  · rw [hs'] at h1 hx
    obtain ⟨_,h1,_⟩:=h1
    simp only [List.cons.injEq,and_true] at h1
    simp only [lenA,Option.some.injEq] at hx
    simp [run_underlying (tyI_string ht hk),h1,goInt,hx]
  · have hu:=run_underlying (tyI_slice ht hk).1 (P:=P) w
    have hv:∃a n' c,ac.eval x= .slice a n' c∧(n':Int)=n:=by
      cases hev:ev x with
      | agg _=>rw [hev] at hx;cases hx
      | tup _=>rw [hev] at hx;cases hx
      | u=>rw [hev] at hx;cases hx
      | one l =>
        rw [hev] at hx h1
        obtain ⟨_,h1⟩:=h1
        cases l with
        | v y =>
          obtain ⟨h1,_⟩:=h1
          simp only [List.cons.injEq,and_true] at h1
          cases y <;> simp only [lenA,Option.some.injEq,reduceCtorEq] at hx
          · exact absurd ⟨_,hev⟩ hn
          · exact ⟨_,_,_,h1,hx⟩
        | own b sz' i n' c =>
          obtain ⟨k,_,h1⟩:=h1
          simp only [List.cons.injEq,and_true] at h1
          simp only [lenA,Option.some.injEq] at hx
          exact ⟨_,_,_,h1,hx⟩
        | gr b sz' n' c =>
          simp only [lenA,Option.some.injEq] at hx
          rcases h1 with ⟨rfl,rfl,h1|⟨_,_,h1,_⟩⟩|⟨k,_,h1⟩
          · simp only [List.cons.injEq,and_true] at h1
            exact ⟨_,_,_,h1,hx⟩
          · simp only [List.cons.injEq,and_true] at h1
            exact ⟨_,_,_,h1,hx⟩
          · simp only [List.cons.injEq,and_true] at h1
            exact ⟨_,_,_,h1,hx⟩
        | ints k l =>
          obtain ⟨y,h1,h2⟩:=h1
          simp only [List.cons.injEq,and_true] at h1
          simp only [lenA,Option.some.injEq] at hx
          rcases h2 with ⟨rfl,rfl⟩|⟨b,off,c,rfl,_⟩
          · exact ⟨_,_,_,h1,by simpa using hx⟩
          · exact ⟨_,_,_,h1,hx⟩
        | nn k l =>
          obtain ⟨y,h1,b,off,c,rfl,_⟩:=h1
          simp only [List.cons.injEq,and_true] at h1
          simp only [lenA,Option.some.injEq] at hx
          exact ⟨_,_,_,h1,hx⟩
        | row sz' n' g =>
          simp only [lenA,Option.some.injEq] at hx
          rcases h1 with ⟨rfl,h1⟩|⟨b,off,c,h1,_⟩
          · simp only [List.cons.injEq,and_true] at h1
            exact ⟨_,_,_,h1,hx⟩
          · simp only [List.cons.injEq,and_true] at h1
            exact ⟨_,_,_,h1,hx⟩
        | _=>cases hx
    obtain ⟨a,n',c,h2,h3⟩:=hv
    simp [hu,h2,goInt,h3]
-- axioms of step_len
end Go.Ax
end
