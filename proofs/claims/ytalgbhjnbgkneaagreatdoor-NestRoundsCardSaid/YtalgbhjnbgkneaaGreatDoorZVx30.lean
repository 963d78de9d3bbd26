/- Lemmas on the program and its library, part Vx30. -/
import Derived.Test.YtalgbhjnbgkneaaGreatDoorZVx19
set_option linter.unusedVariables false
set_option linter.unusedSimpArgs false
section
namespace Go.Vx
open Go.Ax
structure Bx (α:Type) where
  val:α
section
variable {α β:Type}
noncomputable def cg (r:α→β) (d:Nat):Bx (N8 α→β):=
  Bool.rec (motive:=fun _=>Bx (N8 α→β))
    (Bool.rec (motive:=fun _=>Bx (N8 α→β))
      (Bool.rec (motive:=fun _=>Bx (N8 α→β)) ⟨fun n=>r n.a0⟩ ⟨fun n=>r n.a1⟩ (Nat.ble 1 d))
      (Bool.rec (motive:=fun _=>Bx (N8 α→β)) ⟨fun n=>r n.a2⟩ ⟨fun n=>r n.a3⟩ (Nat.ble 3 d)) (Nat.ble 2 d))
    (Bool.rec (motive:=fun _=>Bx (N8 α→β))
      (Bool.rec (motive:=fun _=>Bx (N8 α→β)) ⟨fun n=>r n.a4⟩ ⟨fun n=>r n.a5⟩ (Nat.ble 5 d))
      (Bool.rec (motive:=fun _=>Bx (N8 α→β)) ⟨fun n=>r n.a6⟩ ⟨fun n=>r n.a7⟩ (Nat.ble 7 d)) (Nat.ble 6 d)) (Nat.ble 4 d)
theorem cg_eq (r:α→β) (d:Nat) (n:N8 α):(cg r d).val n=r (n.get d):=by
  unfold cg N8.get
  cases Nat.ble 4 d <;> cases Nat.ble 6 d <;> cases Nat.ble 7 d <;> cases Nat.ble 5 d <;> cases Nat.ble 2 d <;> cases Nat.ble 3 d <;> cases Nat.ble 1 d <;> rfl
abbrev SetF (α β:Type):=α→β→(α→Bool)→Bool
noncomputable def cs (r:SetF α β) (d:Nat):Bx (SetF (N8 α) β):=
  Bool.rec (motive:=fun _=>Bx (SetF (N8 α) β))
    (Bool.rec (motive:=fun _=>Bx (SetF (N8 α) β))
      (Bool.rec (motive:=fun _=>Bx (SetF (N8 α) β))
        ⟨fun n x K=>N8.rec (motive:=fun _=>Bool) (fun a0 a1 a2 a3 a4 a5 a6 a7=>r a0 x (fun y=>K ⟨y,a1,a2,a3,a4,a5,a6,a7⟩)) n⟩
        ⟨fun n x K=>N8.rec (motive:=fun _=>Bool) (fun a0 a1 a2 a3 a4 a5 a6 a7=>r a1 x (fun y=>K ⟨a0,y,a2,a3,a4,a5,a6,a7⟩)) n⟩ (Nat.ble 1 d))
      (Bool.rec (motive:=fun _=>Bx (SetF (N8 α) β))
        ⟨fun n x K=>N8.rec (motive:=fun _=>Bool) (fun a0 a1 a2 a3 a4 a5 a6 a7=>r a2 x (fun y=>K ⟨a0,a1,y,a3,a4,a5,a6,a7⟩)) n⟩
        ⟨fun n x K=>N8.rec (motive:=fun _=>Bool) (fun a0 a1 a2 a3 a4 a5 a6 a7=>r a3 x (fun y=>K ⟨a0,a1,a2,y,a4,a5,a6,a7⟩)) n⟩ (Nat.ble 3 d)) (Nat.ble 2 d))
    (Bool.rec (motive:=fun _=>Bx (SetF (N8 α) β))
      (Bool.rec (motive:=fun _=>Bx (SetF (N8 α) β))
        ⟨fun n x K=>N8.rec (motive:=fun _=>Bool) (fun a0 a1 a2 a3 a4 a5 a6 a7=>r a4 x (fun y=>K ⟨a0,a1,a2,a3,y,a5,a6,a7⟩)) n⟩
        ⟨fun n x K=>N8.rec (motive:=fun _=>Bool) (fun a0 a1 a2 a3 a4 a5 a6 a7=>r a5 x (fun y=>K ⟨a0,a1,a2,a3,a4,y,a6,a7⟩)) n⟩ (Nat.ble 5 d))
      (Bool.rec (motive:=fun _=>Bx (SetF (N8 α) β))
        ⟨fun n x K=>N8.rec (motive:=fun _=>Bool) (fun a0 a1 a2 a3 a4 a5 a6 a7=>r a6 x (fun y=>K ⟨a0,a1,a2,a3,a4,a5,y,a7⟩)) n⟩
        ⟨fun n x K=>N8.rec (motive:=fun _=>Bool) (fun a0 a1 a2 a3 a4 a5 a6 a7=>r a7 x (fun y=>K ⟨a0,a1,a2,a3,a4,a5,a6,y⟩)) n⟩ (Nat.ble 7 d)) (Nat.ble 6 d)) (Nat.ble 4 d)
theorem cs_eq {r:SetF α β} {f:α→β→α} (h:∀n x K,r n x K=K (f n x)) (d:Nat) (n:N8 α) (x:β) (K:N8 α→Bool):(cs r d).val n x K=K (n.set d (f (n.get d) x)):=by
  unfold cs N8.get N8.set
  obtain ⟨a0,a1,a2,a3,a4,a5,a6,a7⟩:=n
  cases Nat.ble 4 d <;> cases Nat.ble 6 d <;> cases Nat.ble 7 d <;> cases Nat.ble 5 d <;> cases Nat.ble 2 d <;> cases Nat.ble 3 d <;> cases Nat.ble 1 d <;> exact h _ _ _
end
section
variable {α:Type}
noncomputable def pget (k:Nat):Bx (Tr α→Option α):=
  Bool.rec (motive:=fun _=>Bx (Tr α→Option α)) ⟨fun _=>none⟩
    (Bx.rec (motive:=fun _=>Bx (Tr α→Option α)) (fun r1=>Bx.rec (motive:=fun _=>Bx (Tr α→Option α)) (fun r2=>Bx.rec (motive:=fun _=>Bx (Tr α→Option α)) (fun r3=>cg r3 (dg (Nat.div k 512)))
      (cg r2 (dg (Nat.div k 64)))) (cg r1 (dg (Nat.div k 8)))) (cg (fun x=>x) (dg k))) (Nat.ble k 4095)
theorem pget_eq (k:Nat) (t:Tr α):(pget k).val t=Tr.get t k:=by
  unfold pget Tr.get
  cases Nat.ble k 4095 with
  | false=>rfl
  | true =>
    dsimp only
    rw [cg_eq,cg_eq,cg_eq,cg_eq]
    rfl
noncomputable def pset (k:Nat):Bx (SetF (Tr α) (Option α)):=
  Bx.rec (motive:=fun _=>Bx (SetF (Tr α) (Option α))) (fun r1=>Bx.rec (motive:=fun _=>Bx (SetF (Tr α) (Option α))) (fun r2=>Bx.rec (motive:=fun _=>Bx (SetF (Tr α) (Option α))) (fun r3=>cs r3 (dg (Nat.div k 512)))
    (cs r2 (dg (Nat.div k 64)))) (cs r1 (dg (Nat.div k 8)))) (cs (fun _ x K=>K x) (dg k))
theorem pset_eq (k:Nat) (t:Tr α) (x:Option α) (K:Tr α→Bool):(pset k).val t x K=K (Tr.set t k x):=by
  unfold pset Tr.set
  refine Eq.trans (cs_eq (f:=fun n x=>N8.set n _ _) (fun n x K=>cs_eq (f:=fun n x=>N8.set n _ _) (fun n x K=>cs_eq (f:=fun n x=>N8.set n _ _) (fun n x K=>cs_eq (f:=fun _ x=>x) (fun _ _ _=>rfl) _ n x K) _ n x K) _ n x K) _ _ _ _) ?_
  rfl
end
noncomputable def fv (v:VV):(VV→Bool)→Bool:=
  VV.rec (motive_1:=fun _=>(VV→Bool)→Bool) (motive_2:=fun _=>Unit)
    (fun x K=>K (.s x)) (fun b o K=>K (.p b o)) (fun b o e n c K=>K (.sl b o e n c)) (fun b o K=>K (.z0 b o)) (fun f xs ys _ _ K=>K (.fn f xs ys)) (fun b K=>K (.yl b))
    (fun K=>K .u1) (fun xs _ K=>K (.agg xs)) (fun xs _ K=>K (.tup xs)) (fun K=>K .u) () (fun _ _ _ _=>()) v
theorem fv_eq (v:VV) (K:VV→Bool):fv v K=K v:=by cases v <;> rfl
noncomputable def fnm (n:Nat) (K:Nat→Bool):Bool:=Nat.rec (motive:=fun _=>(Nat→Bool)→Bool) (fun K=>K 0) (fun n _ K=>K (Nat.succ n)) n K
theorem fnm_eq (n:Nat) (K:Nat→Bool):fnm n K=K n:=by cases n <;> rfl
noncomputable def asS (v:VV):(Value→Bool)→Bool→Bool:=
  VV.rec (motive_1:=fun _=>(Value→Bool)→Bool→Bool) (motive_2:=fun _=>Unit)
    (fun x K _=>K x) (fun _ _ _ D=>D) (fun _ _ _ _ _ _ D=>D) (fun _ _ _ D=>D) (fun _ _ _ _ _ _ D=>D) (fun _ _ D=>D)
    (fun _ D=>D) (fun _ _ _ D=>D) (fun _ _ _ D=>D) (fun _ D=>D) () (fun _ _ _ _=>()) v
noncomputable def asP (v:VV):(Nat→Nat→Bool)→Bool→Bool:=
  VV.rec (motive_1:=fun _=>(Nat→Nat→Bool)→Bool→Bool) (motive_2:=fun _=>Unit)
    (fun _ _ D=>D) (fun b o K _=>K b o) (fun _ _ _ _ _ _ D=>D) (fun _ _ _ D=>D) (fun _ _ _ _ _ _ D=>D) (fun _ _ D=>D)
    (fun _ D=>D) (fun _ _ _ D=>D) (fun _ _ _ D=>D) (fun _ D=>D) () (fun _ _ _ _=>()) v
noncomputable def asPS (v:VV):(Nat→Nat→Bool)→(Nat→Nat→Nat→Nat→Nat→Bool)→Bool→Bool:=
  VV.rec (motive_1:=fun _=>(Nat→Nat→Bool)→(Nat→Nat→Nat→Nat→Nat→Bool)→Bool→Bool) (motive_2:=fun _=>Unit)
    (fun _ _ _ D=>D) (fun b o K _ _=>K b o) (fun b o e n c _ K _=>K b o e n c) (fun _ _ _ _ D=>D) (fun _ _ _ _ _ _ _ D=>D) (fun _ _ _ D=>D)
    (fun _ _ D=>D) (fun _ _ _ _ D=>D) (fun _ _ _ _ D=>D) (fun _ _ D=>D) () (fun _ _ _ _=>()) v
noncomputable def asA (v:VV):(List VV→Bool)→Bool→Bool:=
  VV.rec (motive_1:=fun _=>(List VV→Bool)→Bool→Bool) (motive_2:=fun _=>Unit)
    (fun _ _ D=>D) (fun _ _ _ D=>D) (fun _ _ _ _ _ _ D=>D) (fun _ _ _ D=>D) (fun _ _ _ _ _ _ D=>D) (fun _ _ D=>D)
    (fun _ D=>D) (fun xs _ K _=>K xs) (fun _ _ _ D=>D) (fun _ D=>D) () (fun _ _ _ _=>()) v
noncomputable def vB (v:Value):Bool→Bool→Bool→Bool:=
  Value.rec (motive_1:=fun _=>Bool→Bool→Bool→Bool) (motive_2:=fun _=>Unit) (motive_3:=fun _=>Unit)
    (fun b A B _=>Bool.rec (motive:=fun _=>Bool) B A b) (fun _ _ _ _ D=>D) (fun _ _ _ _ D=>D) (fun _ _ _ _ _ D=>D) (fun _ _ _ D=>D) (fun _ _ _ D=>D) (fun _ _ _ _ _ D=>D) (fun _ _ _ D=>D) (fun _ _ _ D=>D)
    (fun _ _ _ _ _ _ _ D=>D) (fun _ _ D=>D) (fun _ _ _ _ _ D=>D) (fun _ _ D=>D) (fun _ _ _ _ D=>D) (fun _ _ _ _ D=>D) (fun _ _=>()) () (fun _ _ _ _=>()) v
noncomputable def vN (v:Value):(Nat→Bool)→Bool→Bool:=
  Value.rec (motive_1:=fun _=>(Nat→Bool)→Bool→Bool) (motive_2:=fun _=>Unit) (motive_3:=fun _=>Unit)
    (fun _ _ D=>D) (fun k z K D=>IntKind.rec (motive:=fun _=>(Nat→Bool)→Bool→Int→Bool) (fun _ D _=>D) (fun _ D _=>D) (fun _ D _=>D) (fun K D z=>Int.rec (motive:=fun _=>Bool) (fun n=>K n) (fun _=>D) z) (fun _ D _=>D) (fun _ D _=>D) (fun _ D _=>D) (fun _ D _=>D) k K D z)
    (fun _ _ _ D=>D) (fun _ _ _ _ D=>D) (fun _ _ D=>D) (fun _ _ D=>D) (fun _ _ _ _ D=>D) (fun _ _ D=>D) (fun _ _ D=>D)
    (fun _ _ _ _ _ _ D=>D) (fun _ D=>D) (fun _ _ _ _ D=>D) (fun _ D=>D) (fun _ _ _ D=>D) (fun _ _ _ D=>D) (fun _ _=>()) () (fun _ _ _ _=>()) v
noncomputable def asB (v:VV) (A B D:Bool):Bool:=asS v (fun x=>vB x A B D) D
noncomputable def asN (v:VV) (K:Nat→Bool) (D:Bool):Bool:=asS v (fun x=>vN x K D) D
theorem asN_cases (v:VV) (K:Nat→Bool) (D r:Bool) (h1:∀n:Nat,v= .s (.int .i64 (.ofNat n))→K n=r) (h3:D=r):asN v K D=r:=by
  unfold asN
  cases v with
  | s x =>
    cases x with
    | int k z =>
      cases k with
      | i64 => cases z with
        | ofNat n=>exact h1 n rfl
        | negSucc n=>exact h3
      | _=>exact h3
    | _=>exact h3
  | _=>exact h3
theorem asP_cases (v:VV) (K:Nat→Nat→Bool) (D r:Bool) (h1:∀b o,v= .p b o→K b o=r) (h3:D=r):asP v K D=r:=by
  cases v with
  | p b o=>exact h1 b o rfl
  | _=>exact h3
theorem asPS_cases (v:VV) (K:Nat→Nat→Bool) (L:Nat→Nat→Nat→Nat→Nat→Bool) (D r:Bool) (h1:∀b o,v= .p b o→K b o=r) (h2:∀b o e n c,v= .sl b o e n c→L b o e n c=r) (h3:D=r):asPS v K L D=r:=by
  cases v with
  | p b o=>exact h1 b o rfl
  | sl b o e n c=>exact h2 b o e n c rfl
  | _=>exact h3
theorem asA_cases (v:VV) (K:List VV→Bool) (D r:Bool) (h1:∀xs,v= .agg xs→K xs=r) (h3:D=r):asA v K D=r:=by
  cases v with
  | agg xs=>exact h1 xs rfl
  | _=>exact h3
noncomputable def og (x:Operand):Bx (Tr VV→(VV→Bool)→Bool):=match x with
  | .tmp n=>Bx.rec (motive:=fun _=>Bx (Tr VV→(VV→Bool)→Bool)) (fun r=>⟨fun t K=>Option.rec (motive:=fun _=>Bool) (K .u) (fun v=>K v) (r t)⟩) (pget n)
  | x=>⟨fun _ K=>K (evV (fun _=>.u) x)⟩
theorem og_eq (x:Operand) (t:Tr VV) (K:VV→Bool):(og x).val t K=K (evV (tvf t) x):=by
  unfold og
  cases x with
  | tmp n =>
    show Option.rec (motive:=fun _=>Bool) (K .u) (fun v=>K v) ((pget n).val t)=K (tvf t n)
    rw [pget_eq]
    unfold tvf
    cases Tr.get t n <;> rfl
  | _=>rfl
end Go.Vx
end
section
namespace Go.Vx
open Go.Ax
abbrev CallK:=Tg→List VV→Nat→Sx→(VV→Sx→Bool)→Bool
structure En where
  lim:Nat
  rnd:Option Nat
  call:CallK
abbrev VF:=En→Tr VV→Sx→(VV→Sx→Bool)→Bool
abbrev RF:=En→Tr VV→Sx→(Tr VV→Sx→Bool)→Bool
def thenV (r:Option (VV×Sx)) (K:VV→Sx→Bool):Bool:=match r with
  | some (v,S)=>K v S
  | none=>false
def thenR (r:Option (Tr VV×Sx)) (K:Tr VV→Sx→Bool):Bool:=match r with
  | some (t,S)=>K t S
  | none=>false
def CallEq (cK:CallK) (c:CallF):Prop:=∀tg xs lim S K,cK tg xs lim S K=thenV (c tg xs lim S) K
noncomputable def setK {α:Type} (k:Nat) (t:Tr α) (x:Option α) (K:Tr α→Bool):Bool:=Bx.rec (motive:=fun _=>Bool) (fun s=>s t x K) (pset k)
theorem setK_eq {α:Type} (k:Nat) (t:Tr α) (x:Option α) (K:Tr α→Bool):setK k t x K=K (Tr.set t k x):=pset_eq k t x K
noncomputable def getK {α:Type} (k:Nat) (t:Tr α):Option α:=Bx.rec (motive:=fun _=>Option α) (fun s=>s t) (pget k)
theorem getK_eq {α:Type} (k:Nat) (t:Tr α):getK k t=Tr.get t k:=pget_eq k t
noncomputable def ofLK (cs:List VV):Nat→Tr VV→(Tr VV→Bool)→Bool→Bool:=
  List.rec (motive:=fun _=>Nat→Tr VV→(Tr VV→Bool)→Bool→Bool) (fun _ t K _=>K t) (fun x _ ih i t K D=>Bool.rec (motive:=fun _=>Bool) D (setK i t (some x) (fun t=>ih (Nat.succ i) t K D)) (Tr.fits i)) cs
theorem ofLK_eq:∀(cs:List VV) (i:Nat) (t:Tr VV) (K:Tr VV→Bool) (D:Bool),ofLK cs i t K D=match ofL cs i t with|some t=>K t|none=>D
  | [],_,_,_,_=>rfl
  | x :: r, i, t, K, D => by
    show Bool.rec (motive:=fun _=>Bool) D (setK i t (some x) (fun t=>ofLK r (Nat.succ i) t K D)) (Tr.fits i)=_
    rw [setK_eq,ofLK_eq r]
    conv=>rhs;unfold ofL
    cases Tr.fits i <;> rfl
noncomputable def arrK (x:Blk) (K:Blk→Bool):Bool:=match x with
  | .cells cs => match longer 16 cs with
    | true=>ofLK cs 0 Tr.lf (fun t=>K (.arr cs.length t)) (K (.cells cs))
    | false=>K (.cells cs)
  | x=>K x
theorem arrK_eq (x:Blk) (K:Blk→Bool):arrK x K=K x.arrify:=by
  unfold arrK Blk.arrify
  cases x with
  | cells cs =>
    dsimp only
    cases longer 16 cs with
    | true=>dsimp only;rw [ofLK_eq];cases ofL cs 0 Tr.lf <;> rfl
    | false=>rfl
  | _=>rfl
noncomputable def arrUK (u:Up) (K:Up→Bool):Bool:=match u with
  | .no=>K .no
  | .set b x=>arrK x fun x=>K (.set b x)
  | .new x=>arrK x fun x=>K (.new x)
  | .app b x=>arrK x fun x=>K (.app b x)
theorem arrUK_eq (u:Up) (K:Up→Bool):arrUK u K=K u.arrify:=by
  cases u with
  | no=>rfl
  | set b x=>exact arrK_eq x fun x=>K (.set b x)
  | new x=>exact arrK_eq x fun x=>K (.new x)
  | app b x=>exact arrK_eq x fun x=>K (.app b x)
noncomputable def apK (u:Up) (S:Sx) (K:Sx→Bool):Bool:=match u with
  | .no=>K S
  | .set b x=>Bool.rec (motive:=fun _=>Bool) false (setK b S.h (some x) (fun h=>K ⟨h,S.nb⟩)) (Tr.fits b && Nat.ble (b+1) S.nb)
  | .new x=>Bool.rec (motive:=fun _=>Bool) false (setK S.nb S.h (some x) (fun h=>fnm (Nat.succ S.nb) fun n=>K ⟨h,n⟩)) (Tr.fits S.nb)
  | .app b x=>Bool.rec (motive:=fun _=>Bool) false (setK b S.h none (fun h=>setK S.nb h (some x) (fun h=>fnm (Nat.succ S.nb) fun n=>K ⟨h,n⟩))) (Tr.fits b && Tr.fits S.nb && Nat.ble (b+1) S.nb)
theorem apK_eq (u:Up) (S:Sx) (K:Sx→Bool):apK u S K=match u.ap S with|some S=>K S|none=>false:=by
  unfold apK Up.ap
  cases u with
  | no=>rfl
  | set b x=>dsimp only;rw [setK_eq];cases (Tr.fits b && Nat.ble (b+1) S.nb) <;> rfl
  | new x=>dsimp only;rw [setK_eq,fnm_eq];cases Tr.fits S.nb <;> rfl
  | app b x=>dsimp only;rw [setK_eq,setK_eq,fnm_eq];cases (Tr.fits b && Tr.fits S.nb && Nat.ble (b+1) S.nb) <;> rfl
section
variable (tt:TypeId→Option TyI) (ng lim nb:Nat) (h:Nat→Option Blk) (ev:Operand→VV)
def thenU (r:Option (VV×Up)) (K:VV→Up→Bool):Bool:=match r with
  | some (v,u)=>K v u
  | none=>false
noncomputable def upK (r:Option (VV×Up)) (K:VV→Up→Bool):Bool:=match r with
  | some (v, u) => match u.flat with
    | true=>arrUK u fun u=>K v u
    | false=>false
  | none=>false
theorem upK_eq (r:Option (VV×Up)) (K:VV→Up→Bool):upK r K=thenU (upA r) K:=by
  unfold upK upA thenU
  cases r with
  | none=>rfl
  | some x =>
    obtain ⟨v,u⟩:=x
    dsimp only
    cases u.flat with
    | true=>exact arrUK_eq _ _
    | false=>rfl
noncomputable def ldK (ti:TyI) (b off:Nat) (K:VV→Up→Bool):Bool:=match h b with
  | some (.arr n t) => match ti.agg, Nat.beq ti.size 1 && Nat.ble (Nat.succ off) n with
    | false,true=>K (tvf t off) .no
    | _,_=>upK (evLoad (viewH h) ti b off) K
  | _=>upK (evLoad (viewH h) ti b off) K
theorem ldK_eq (ti:TyI) (b off:Nat) (K:VV→Up→Bool):ldK h ti b off K=thenU (evLdA h ti b off) K:=by
  unfold ldK evLdA
  cases h b with
  | none=>exact upK_eq _ _
  | some x =>
    cases x with
    | arr n t =>
      dsimp only
      cases ti.agg with
      | true=>exact upK_eq _ _
      | false =>
        generalize (Nat.beq ti.size 1 && Nat.ble (Nat.succ off) n)=c
        cases c with
        | true=>rfl
        | false=>exact upK_eq _ _
    | _=>exact upK_eq _ _
noncomputable def stK (ti:TyI) (b off:Nat) (y:VV) (K:VV→Up→Bool):Bool:=match h b,y.cells with
  | some (.arr n t),some [z]=>Bool.rec (motive:=fun _=>Bool) false (setK off t (some z) fun t=>K .u (.set b (.arr n t))) (Nat.beq 1 ti.size && Nat.ble (off+ti.size) n && Nat.ble ng b && Nat.ble lim b && Tr.fits off)
  | _,_=>upK (evStore ng lim (viewH h) ti b off y) K
theorem stK_eq (ti:TyI) (b off:Nat) (y:VV) (K:VV→Up→Bool):stK ng lim h ti b off y K=thenU (evStA ng lim h ti b off y) K:=by
  unfold stK evStA
  cases h b with
  | none=>exact upK_eq _ _
  | some x =>
    cases x with
    | arr n t =>
      cases y.cells with
      | none=>exact upK_eq _ _
      | some l =>
        match l with
        | []=>exact upK_eq _ _
        | [z] =>
          dsimp only
          rw [setK_eq]
          unfold ifB
          generalize (Nat.beq 1 ti.size && Nat.ble (off+ti.size) n && Nat.ble ng b && Nat.ble lim b && Tr.fits off)=c
          cases c <;> rfl
        | _ :: _ :: _=>exact upK_eq _ _
    | _=>exact upK_eq _ _
noncomputable def evK (o:Oper) (K:VV→Up→Bool):Bool:=match o.op with
  | .load T x => match ev x, tt T with
    | .p b off,some ti=>ldK h ti b off K
    | _,_=>false
  | .store T x y => match ev x, tt T with
    | .p b off,some ti=>stK ng lim h ti b off (ev y) K
    | _,_=>false
  | _=>upK (evOp tt ng lim nb (viewH h) ev o) K
theorem evK_eq (o:Oper) (K:VV→Up→Bool):evK tt ng lim nb h ev o K=thenU (evOp2 tt ng lim nb h ev o) K:=by
  unfold evK evOp2
  by_cases h1:∃T x,o.op= .load T x
  · obtain ⟨T,x,h1⟩:=h1
    simp only [h1]
    cases ev x with
    | p b off =>
      cases tt T with
      | none=>rfl
      | some ti=>exact ldK_eq _ _ _ _ _
    | _=>rfl
  · by_cases h2:∃T x y,o.op= .store T x y
    · obtain ⟨T,x,y,h2⟩:=h2
      simp only [h2]
      cases ev x with
      | p b off =>
        cases tt T with
        | none=>rfl
        | some ti=>exact stK_eq _ _ _ _ _ _ _ _
      | _=>rfl
    · have e1:evOp2 tt ng lim nb h ev o=upA (evOp tt ng lim nb (viewH h) ev o):=by
        unfold evOp2
        split
        · rename_i T x e;exact absurd ⟨T,x,e⟩ h1
        · rename_i T x y e;exact absurd ⟨T,x,y,e⟩ h2
        · rfl
      show _=thenU (evOp2 tt ng lim nb h ev o) K
      rw [e1,←upK_eq]
      split
      · rename_i T x e;exact absurd ⟨T,x,e⟩ h1
      · rename_i T x y e;exact absurd ⟨T,x,y,e⟩ h2
      · rfl
end
section
variable (tt:TypeId→Option TyI) (ng:Nat) (call:CallK)
noncomputable def plK (lim:Nat) (S:Sx) (h:Nat→Option Blk) (ev:Operand→VV) (o:Oper) (K:VV→Sx→Bool):Bool:=evK tt ng lim S.nb h ev o fun v u=>apK u S fun S=>fv v fun v=>K v S
noncomputable def oprK (lim:Nat) (S:Sx) (ev:Operand→VV) (o:Oper) (K:VV→Sx→Bool):Bool:=match o.op with
  | .call { callee := .value f, args := args, argTypes := _ } => match ev f with
    | .fn (.func g) xs ys=>call (.f g) (xs++args.toList.map ev++ys) lim S K
    | .yl b => match S.f b with
      | some _=>call (.y b) (args.toList.map ev) lim S K
      | none=>false
    | _=>false
  | _=>plK tt ng lim S S.f ev o K
variable {call} {cF:CallF}
theorem plK_eq (lim:Nat) (S:Sx) (h:Nat→Option Blk) (ev:Operand→VV) (o:Oper) (K:VV→Sx→Bool):plK tt ng lim S h ev o K=thenV (match evOp2 tt ng lim S.nb h ev o with
    | some (v, u) => match u.ap S with
      | some S'=>some (v,S')
      | none=>none
    | none=>none) K:=by
  unfold plK
  rw [evK_eq]
  unfold thenU
  cases evOp2 tt ng lim S.nb h ev o with
  | none=>rfl
  | some x =>
    obtain ⟨v,u⟩:=x
    dsimp only
    rw [apK_eq]
    cases u.ap S with
    | none=>rfl
    | some S'=>dsimp only;rw [fv_eq];rfl
theorem oprK_eq (hc:CallEq call cF) (lim:Nat) (S:Sx) (ev:Operand→VV) (o:Oper) (K:VV→Sx→Bool):oprK tt ng call lim S ev o K=thenV (evOpr tt ng cF lim S ev o) K:=by
  unfold oprK evOpr
  by_cases h1:∃f args ats,o.op= .call { callee:=.value f,args:=args,argTypes:=ats }
  · obtain ⟨f,args,ats,h1⟩:=h1
    simp only [h1]
    cases ev f with
    | fn g xs ys =>
      cases g with
      | func g=>exact hc _ _ _ _ _
      | _=>rfl
    | yl b =>
      dsimp only
      cases S.f b with
      | some _=>exact hc _ _ _ _ _
      | none=>rfl
    | _=>rfl
  · have e1:evOpr tt ng cF lim S ev o=(match evOp2 tt ng lim S.nb S.f ev o with
    | some (v, u) => match u.ap S with
      | some S'=>some (v,S')
      | none=>none
    | none => none) := by
      unfold evOpr
      split
      · rename_i f args ats e;exact absurd ⟨f,args,ats,e⟩ h1
      · rfl
    show _=thenV (evOpr tt ng cF lim S ev o) K
    rw [e1]
    split
    · rename_i f args ats e;exact absurd ⟨f,args,ats,e⟩ h1
    · exact plK_eq _ _ _ _ _ _ _ _
end
end Go.Vx
end
section
namespace Go.Vx
open Go.Ax
theorem wrap64 {z:Nat} (h:z≤9223372036854775807):IntKind.i64.wrap (Int.ofNat z)=Int.ofNat z:=by
  have e1:(Int.ofNat z)%(2 ^ IntKind.i64.bits:Int)=Int.ofNat z:=by
    show ((z:Nat):Int)%(2 ^ 64:Int)=(z:Int)
    omega
  unfold IntKind.wrap
  dsimp only
  rw [e1]
  have e2:¬(Int.ofNat z≥(2 ^ (IntKind.i64.bits - 1):Int)):=by
    show ¬((z:Int)≥(2 ^ 63:Int))
    omega
  simp only [e2,decide_false,Bool.and_false]
  rfl
abbrev i64 (n:Nat):VV:=.s (.int .i64 (.ofNat n))
abbrev bv (b:Bool):VV:=.s (.bool b)
abbrev BinF:=Nat→Nat→(VV→Bool)→Bool→Bool
def BinOk (op:BinOp) (f:BinF):Prop:=∀(h:Nat→Option Blk) (ti:TyI) (n m:Nat) (K:VV→Bool) (D r:Bool),(∀z,evBin h ti op (i64 n) (i64 m)=some (z,.no)→K z=r)→D=r→f n m K D=r
theorem evBin_int {h:Nat→Option Blk} {ti:TyI} {op:BinOp} {n m:Nat} {p:Prop} {v:Value} (hs:op≠.shl) (hs':op≠.shr) (hi:intBin op .i64 (.ofNat n) (.ofNat m)=some (p,v)) (hp:preB op (.int .i64 (.ofNat n)) (.int .i64 (.ofNat m))=true) (ho:v.oneCell'=true):evBin h ti op (i64 n) (i64 m)=some (.s v,.no):=by
  have e:binV ti.kind op (.int .i64 (.ofNat n)) (.int .i64 (.ofNat m))=some (p,v):=by
    unfold binV
    cases op <;> first|exact absurd rfl hs|exact absurd rfl hs'|exact hi
  unfold evBin
  dsimp only
  rw [e]
  dsimp only
  rw [hp,ho]
  rfl
noncomputable def numK (z:Nat) (K:VV→Bool) (D:Bool):Bool:=Bool.rec (motive:=fun _=>Bool) D (fnm z fun z=>K (i64 z)) (Nat.ble z 9223372036854775807)
theorem numK_r {z:Nat} {K:VV→Bool} {D r:Bool} (h:z≤9223372036854775807→K (i64 z)=r) (hD:D=r):numK z K D=r:=by
  unfold numK
  rw [fnm_eq]
  cases e:Nat.ble z 9223372036854775807 with
  | true=>exact h (Nat.le_of_ble_eq_true e)
  | false=>exact hD
noncomputable def boolK (b:Bool) (K:VV→Bool):Bool:=Bool.rec (motive:=fun _=>Bool) (K (bv false)) (K (bv true)) b
theorem boolK_eq (b:Bool) (K:VV→Bool):boolK b K=K (bv b):=by cases b <;> rfl
noncomputable def addF:BinF:=fun n m K D=>numK (Nat.add n m) K D
noncomputable def subF:BinF:=fun n m K D=>Bool.rec (motive:=fun _=>Bool) D (numK (Nat.sub n m) K D) (Nat.ble m n)
noncomputable def mulF:BinF:=fun n m K D=>numK (Nat.mul n m) K D
noncomputable def quoF:BinF:=fun n m K D=>Bool.rec (motive:=fun _=>Bool) (numK (Nat.div n m) K D) D (Nat.beq m 0)
noncomputable def remF:BinF:=fun n m K D=>Bool.rec (motive:=fun _=>Bool) (fnm (Nat.mod n m) fun z=>K (i64 z)) D (Nat.beq m 0)
noncomputable def eqlF:BinF:=fun n m K _=>boolK (Nat.beq n m) K
noncomputable def neqF:BinF:=fun n m K _=>Bool.rec (motive:=fun _=>Bool) (K (bv true)) (K (bv false)) (Nat.beq n m)
noncomputable def lssF:BinF:=fun n m K _=>boolK (Nat.ble (Nat.succ n) m) K
noncomputable def leqF:BinF:=fun n m K _=>boolK (Nat.ble n m) K
noncomputable def gtrF:BinF:=fun n m K _=>boolK (Nat.ble (Nat.succ m) n) K
noncomputable def geqF:BinF:=fun n m K _=>boolK (Nat.ble m n) K
noncomputable def small (n m:Nat) (A D:Bool):Bool:=Bool.rec (motive:=fun _=>Bool) D (Bool.rec (motive:=fun _=>Bool) D A (Nat.ble m 9223372036854775807)) (Nat.ble n 9223372036854775807)
noncomputable def andF:BinF:=fun n m K D=>small n m (numK (Nat.land n m) K D) D
noncomputable def orF:BinF:=fun n m K D=>small n m (numK (Nat.lor n m) K D) D
noncomputable def anotF:BinF:=fun n m K D=>small n m (numK (Nat.land n (Nat.sub 18446744073709551615 m)) K D) D
theorem small_r {n m:Nat} {A D r:Bool} (h:n≤9223372036854775807→m≤9223372036854775807→A=r) (hD:D=r):small n m A D=r:=by
  unfold small
  cases e1:Nat.ble n 9223372036854775807 with
  | false=>exact hD
  | true => cases e2 : Nat.ble m 9223372036854775807 with
    | false=>exact hD
    | true=>exact h (Nat.le_of_ble_eq_true e1) (Nat.le_of_ble_eq_true e2)
theorem add_ok:BinOk .add addF:=by
  intro h ti n m K D r hK hD
  refine numK_r (fun hz=>hK _ (evBin_int (by simp) (by simp) (p:=True) ?_ rfl rfl)) hD
  show some (True,Value.int .i64 (IntKind.i64.wrap (Int.ofNat (n+m))))=_
  rw [show n+m=Nat.add n m from rfl,wrap64 hz]
theorem sub_ok:BinOk .sub subF:=by
  intro h ti n m K D r hK hD
  unfold subF
  cases e:Nat.ble m n with
  | false=>exact hD
  | true =>
    have hle:=Nat.le_of_ble_eq_true e
    refine numK_r (fun hz=>hK _ (evBin_int (by simp) (by simp) (p:=True) ?_ rfl rfl)) hD
    show some (True,Value.int .i64 (IntKind.i64.wrap (Int.ofNat n - Int.ofNat m)))=_
    rw [show Int.ofNat n - Int.ofNat m=Int.ofNat (n - m) from (Int.ofNat_sub hle).symm]
    rw [show n - m=Nat.sub n m from rfl,wrap64 hz]
theorem mul_ok:BinOk .mul mulF:=by
  intro h ti n m K D r hK hD
  refine numK_r (fun hz=>hK _ (evBin_int (by simp) (by simp) (p:=True) ?_ rfl rfl)) hD
  show some (True,Value.int .i64 (IntKind.i64.wrap (Int.ofNat (n*m))))=_
  rw [show n*m=Nat.mul n m from rfl,wrap64 hz]
theorem quo_ok:BinOk .quo quoF:=by
  intro h ti n m K D r hK hD
  unfold quoF
  cases e:Nat.beq m 0 with
  | true=>exact hD
  | false =>
    refine numK_r (fun hz=>hK _ (evBin_int (by simp) (by simp) (p:=(Int.ofNat m≠0)) ?_ (by show (!(Nat.beq m 0))=true;rw [e];rfl) rfl)) hD
    show some (_,Value.int .i64 (IntKind.i64.wrap ((Int.ofNat n).tdiv (Int.ofNat m))))=_
    rw [show (Int.ofNat n).tdiv (Int.ofNat m)=Int.ofNat (Nat.div n m) from rfl]
    rw [wrap64 hz]
theorem rem_ok:BinOk .rem remF:=by
  intro h ti n m K D r hK hD
  unfold remF
  cases e:Nat.beq m 0 with
  | true=>exact hD
  | false =>
    show fnm _ _=r
    rw [fnm_eq]
    exact hK _ (evBin_int (p:=(Int.ofNat m≠0)) (by simp) (by simp) rfl (by show (!(Nat.beq m 0))=true;rw [e];rfl) rfl)
theorem eql_ok:BinOk .eql eqlF:=by
  intro h ti n m K D r hK hD
  unfold eqlF
  rw [boolK_eq]
  refine hK _ (evBin_int (p:=True) (by simp) (by simp) ?_ rfl rfl)
  show some (True,Value.bool (Int.ofNat n == Int.ofNat m))=some (True,Value.bool (Nat.beq n m))
  rw [beq_t,show (Int.ofNat n == Int.ofNat m)=decide (Int.ofNat n=Int.ofNat m) from rfl]
  simp
  omega
theorem neq_ok:BinOk .neq neqF:=by
  intro h ti n m K D r hK hD
  have e1:neqF n m K D=K (bv (!(Nat.beq n m))):=by unfold neqF;cases Nat.beq n m <;> rfl
  rw [e1]
  refine hK _ (evBin_int (p:=True) (by simp) (by simp) ?_ rfl rfl)
  show some (True,Value.bool (Int.ofNat n != Int.ofNat m))=some (True,Value.bool (!(Nat.beq n m)))
  rw [beq_t,show (Int.ofNat n != Int.ofNat m)= !(decide (Int.ofNat n=Int.ofNat m)) from rfl]
  simp
  omega
theorem ble_t {a b:Nat}:Nat.ble a b=decide (a≤b):=by
  cases e:Nat.ble a b with
  | true=>simp [Nat.le_of_ble_eq_true e]
  | false =>
    have:¬a≤b:=fun h=>by rw [Nat.ble_eq_true_of_le h] at e;cases e
    simp [this]
theorem lss_ok:BinOk .lss lssF:=by
  intro h ti n m K D r hK hD
  unfold lssF
  rw [boolK_eq]
  refine hK _ (evBin_int (p:=True) (by simp) (by simp) ?_ rfl rfl)
  show some (True,Value.bool (decide (Int.ofNat n < Int.ofNat m)))=some (True,Value.bool (Nat.ble (n+1) m))
  rw [ble_t]
  simp only [Int.ofNat_eq_natCast,Int.ofNat_lt];rfl
theorem leq_ok:BinOk .leq leqF:=by
  intro h ti n m K D r hK hD
  unfold leqF
  rw [boolK_eq]
  refine hK _ (evBin_int (p:=True) (by simp) (by simp) ?_ rfl rfl)
  show some (True,Value.bool (decide (Int.ofNat n≤Int.ofNat m)))=some (True,Value.bool (Nat.ble n m))
  rw [ble_t]
  simp only [Int.ofNat_eq_natCast,Int.ofNat_le]
theorem gtr_ok:BinOk .gtr gtrF:=by
  intro h ti n m K D r hK hD
  unfold gtrF
  rw [boolK_eq]
  refine hK _ (evBin_int (p:=True) (by simp) (by simp) ?_ rfl rfl)
  show some (True,Value.bool (decide (Int.ofNat m < Int.ofNat n)))=some (True,Value.bool (Nat.ble (m+1) n))
  rw [ble_t]
  simp only [Int.ofNat_eq_natCast,Int.ofNat_lt];rfl
theorem geq_ok:BinOk .geq geqF:=by
  intro h ti n m K D r hK hD
  unfold geqF
  rw [boolK_eq]
  refine hK _ (evBin_int (p:=True) (by simp) (by simp) ?_ rfl rfl)
  show some (True,Value.bool (decide (Int.ofNat m≤Int.ofNat n)))=some (True,Value.bool (Nat.ble m n))
  rw [ble_t]
  simp only [Int.ofNat_eq_natCast,Int.ofNat_le]
theorem ofInt_nat {n:Nat} (h:n≤9223372036854775807):(BitVec.ofInt IntKind.i64.bits (Int.ofNat n)).toNat=n:=by
  show (BitVec.ofInt 64 (n:Int)).toNat=n
  rw [BitVec.ofInt_natCast,BitVec.toNat_ofNat]
  exact Nat.mod_eq_of_lt (by omega)
theorem and_ok:BinOk .and andF:=by
  intro h ti n m K D r hK hD
  refine small_r (fun hn hm=>numK_r (fun hz=>hK _ (evBin_int (by simp) (by simp) (p:=True) ?_ rfl rfl)) hD) hD
  show some (True,Value.int .i64 (IntKind.i64.wrap (Int.ofNat (BitVec.ofInt IntKind.i64.bits (Int.ofNat n) &&& BitVec.ofInt IntKind.i64.bits (Int.ofNat m)).toNat)))=_
  rw [BitVec.toNat_and,ofInt_nat hn,ofInt_nat hm,show n &&& m=Nat.land n m from rfl,wrap64 hz]
theorem or_ok:BinOk .or orF:=by
  intro h ti n m K D r hK hD
  refine small_r (fun hn hm=>numK_r (fun hz=>hK _ (evBin_int (by simp) (by simp) (p:=True) ?_ rfl rfl)) hD) hD
  show some (True,Value.int .i64 (IntKind.i64.wrap (Int.ofNat (BitVec.ofInt IntKind.i64.bits (Int.ofNat n) ||| BitVec.ofInt IntKind.i64.bits (Int.ofNat m)).toNat)))=_
  rw [BitVec.toNat_or,ofInt_nat hn,ofInt_nat hm,show n ||| m=Nat.lor n m from rfl,wrap64 hz]
theorem anot_ok:BinOk .andNot anotF:=by
  intro h ti n m K D r hK hD
  refine small_r (fun hn hm=>numK_r (fun hz=>hK _ (evBin_int (by simp) (by simp) (p:=True) ?_ rfl rfl)) hD) hD
  show some (True,Value.int .i64 (IntKind.i64.wrap (Int.ofNat (BitVec.ofInt IntKind.i64.bits (Int.ofNat n) &&& ~~~(BitVec.ofInt IntKind.i64.bits (Int.ofNat m))).toNat)))=_
  rw [BitVec.toNat_and,BitVec.toNat_not,ofInt_nat hn,ofInt_nat hm,show n &&& (2 ^ IntKind.i64.bits - 1 - m)=Nat.land n (Nat.sub 18446744073709551615 m) from rfl,wrap64 hz]
noncomputable def binF (op:BinOp):Bx BinF:=match op with
  | .add=>⟨addF⟩
  | .sub=>⟨subF⟩
  | .mul=>⟨mulF⟩
  | .quo=>⟨quoF⟩
  | .rem=>⟨remF⟩
  | .eql=>⟨eqlF⟩
  | .neq=>⟨neqF⟩
  | .lss=>⟨lssF⟩
  | .leq=>⟨leqF⟩
  | .gtr=>⟨gtrF⟩
  | .geq=>⟨geqF⟩
  | .and=>⟨andF⟩
  | .or=>⟨orF⟩
  | .andNot=>⟨anotF⟩
  | _=>⟨fun _ _ _ D=>D⟩
theorem bin_ok (op:BinOp):BinOk op (binF op).val:=by
  cases op with
  | add=>exact add_ok
  | sub=>exact sub_ok
  | mul=>exact mul_ok
  | quo=>exact quo_ok
  | rem=>exact rem_ok
  | eql=>exact eql_ok
  | neq=>exact neq_ok
  | lss=>exact lss_ok
  | leq=>exact leq_ok
  | gtr=>exact gtr_ok
  | geq=>exact geq_ok
  | and=>exact and_ok
  | or=>exact or_ok
  | andNot=>exact anot_ok
  | _=>exact fun _ _ _ _ _ _ _ _ hD=>hD
end Go.Vx
end
