/- Lemmas on the program and its library, part Vx33. -/
import Derived.Test.YtalgbhjnbgkneaaGreatDoorZVx30
set_option linter.unusedVariables false
set_option linter.unusedSimpArgs false
section
namespace Go.Vx
open Go.Ax
noncomputable def tlN (xs:List VV) (i:Nat):List VV:=Nat.rec (motive:=fun _=>List VV) xs (fun _ ih=>List.rec (motive:=fun _=>List VV) [] (fun _ t _=>t) ih) i
theorem tlN_eq (xs:List VV):∀i,tlN xs i=xs.drop i
  | 0=>rfl
  | i + 1 => by
    show List.rec (motive:=fun _=>List VV) [] (fun _ t _=>t) (tlN xs i)=_
    rw [tlN_eq xs i]
    cases e:xs.drop i with
    | nil=>rw [←List.tail_drop,e];rfl
    | cons x r=>rw [←List.tail_drop,e];rfl
noncomputable def lgK (xs:List VV) (i:Nat) (K:VV→Bool) (D:Bool):Bool:=List.rec (motive:=fun _=>Bool) D (fun y _ _=>fv y K) (tlN xs i)
theorem lgK_r {xs:List VV} {i:Nat} {K:VV→Bool} {D r:Bool} (h:∀y,(xs.drop i).take 1= [y]→i+1≤xs.length→K y=r) (hD:D=r):lgK xs i K D=r:=by
  unfold lgK
  rw [tlN_eq]
  cases e:xs.drop i with
  | nil=>exact hD
  | cons y l =>
    show fv y K=r
    rw [fv_eq]
    refine h y (by rw [e];rfl) ?_
    have:(xs.drop i).length=l.length+1:=by rw [e];rfl
    rw [List.length_drop] at this
    omega
noncomputable def c1K (v:VV):Bool→Bool→Bool:=
  VV.rec (motive_1:=fun _=>Bool→Bool→Bool) (motive_2:=fun _=>Unit)
    (fun _ A _=>A) (fun _ _ A _=>A) (fun _ _ _ _ _ A _=>A) (fun _ _ A _=>A) (fun _ _ _ _ _ A _=>A) (fun _ A _=>A)
    (fun A _=>A) (fun _ _ _ D=>D) (fun _ _ _ D=>D) (fun _ D=>D) () (fun _ _ _ _=>()) v
theorem c1K_r {v:VV} {A D r:Bool} (h:v.cells=some [v]→A=r) (hD:D=r):c1K v A D=r:=by
  cases v with
  | agg xs=>exact hD
  | tup xs=>exact hD
  | u=>exact hD
  | _=>exact h rfl
noncomputable def bkK (S:Sx) (b:Nat) (K:Blk→Bool) (D:Bool):Bool:=Option.rec (motive:=fun _=>Bool) D (fun x=>K x) (getK b S.h)
theorem bkK_r {S:Sx} {b:Nat} {K:Blk→Bool} {D r:Bool} (h:∀x,S.f b=some x→K x=r) (hD:D=r):bkK S b K D=r:=by
  unfold bkK
  rw [getK_eq]
  have:S.f b=Tr.get S.h b:=rfl
  rw [this] at h
  cases e:Tr.get S.h b with
  | none=>exact hD
  | some x=>exact h x e
noncomputable def caK (x:Blk):(List VV→Bool)→(Nat→Tr VV→Bool)→Bool→Bool:=Blk.rec (motive:=fun _=>(List VV→Bool)→(Nat→Tr VV→Bool)→Bool→Bool) (fun cs K _ _=>K cs) (fun n t _ K _=>K n t) (fun _ _ _ _ _ _ _ _ _ D=>D) (fun _ _ D=>D) x
theorem caK_r {x:Blk} {K:List VV→Bool} {L:Nat→Tr VV→Bool} {D r:Bool} (h1:∀cs,x= .cells cs→K cs=r) (h2:∀n t,x= .arr n t→L n t=r) (hD:D=r):caK x K L D=r:=by
  cases x with
  | cells cs=>exact h1 cs rfl
  | arr n t=>exact h2 n t rfl
  | _=>exact hD
noncomputable def ifK (c A D:Bool):Bool:=Bool.rec (motive:=fun _=>Bool) D A c
theorem ifK_r {c A D r:Bool} (h:c=true→A=r) (hD:D=r):ifK c A D=r:=by
  cases c with
  | true=>exact h rfl
  | false=>exact hD
section
variable (tt:TypeId→Option TyI) (ng:Nat)
noncomputable def gen (o:Oper):VF:=fun e t S K=>oprK tt ng e.call e.lim S (evV (tvf t)) o K
theorem gen_no {o:Oper} {e:En} {t:Tr VV} {S:Sx} {K:VV→Sx→Bool} {v:VV} (hc:∀f args ats,o.op≠.call { callee:=.value f,args:=args,argTypes:=ats }) (h:evOp2 tt ng e.lim S.nb S.f (evV (tvf t)) o=some (v,.no)):gen tt ng o e t S K=K v S:=by
  unfold gen oprK
  split
  · rename_i f args ats e;exact absurd e (hc _ _ _)
  · rw [plK_eq,h];rfl
theorem gen_up {o:Oper} {e:En} {t:Tr VV} {S S':Sx} {K:VV→Sx→Bool} {v:VV} {u:Up} (hc:∀f args ats,o.op≠.call { callee:=.value f,args:=args,argTypes:=ats }) (h:evOp2 tt ng e.lim S.nb S.f (evV (tvf t)) o=some (v,u)) (hu:u.ap S=some S'):gen tt ng o e t S K=K v S':=by
  unfold gen oprK
  split
  · rename_i f args ats e;exact absurd e (hc _ _ _)
  · rw [plK_eq,h];dsimp only;rw [hu];rfl
theorem op2_plain {o:Oper} {lim nb:Nat} {h:Nat→Option Blk} {ev:Operand→VV} {v:VV} (h1:∀T x,o.op≠.load T x) (h2:∀T x y,o.op≠.store T x y) (he:evOp tt ng lim nb (viewH h) ev o=some (v,.no)):evOp2 tt ng lim nb h ev o=some (v,.no):=by
  unfold evOp2
  split
  · rename_i T x e;exact absurd e (h1 _ _)
  · rename_i T x y e;exact absurd e (h2 _ _ _)
  · rw [he];rfl
def VOk (o:Oper) (f:VF):Prop:=∀e t S K,f e t S K=gen tt ng o e t S K
noncomputable def vMv (x:Operand):Bx VF:=Bx.rec (motive:=fun _=>Bx VF) (fun gx=>⟨fun _ t S K=>gx t fun v=>K v S⟩) (og x)
theorem vMv_ok {o:Oper} {x:Operand} (ho:o.op= .move x∨o.op= .assign x):VOk tt ng o (vMv x).val:=by
  intro e t S K
  show (og x).val t (fun v=>K v S)=_
  rw [og_eq]
  refine (gen_no tt ng (fun f a b h=>by rcases ho with ho|ho <;> rw [ho] at h <;> cases h) (op2_plain tt ng (fun T y h=>by rcases ho with ho|ho <;> rw [ho] at h <;> cases h) (fun T y z h=>by rcases ho with ho|ho <;> rw [ho] at h <;> cases h) ?_)).symm
  unfold evOp
  rcases ho with ho|ho <;> rw [ho]
noncomputable def vBin (o:Oper) (op:BinOp) (x y:Operand):Bx VF:=
  Bx.rec (motive:=fun _=>Bx VF) (fun f=>Bx.rec (motive:=fun _=>Bx VF) (fun gx=>Bx.rec (motive:=fun _=>Bx VF) (fun gy=>
    ⟨fun e t S K=>gx t fun a=>gy t fun b=>(fun D=>asN a (fun n=>asN b (fun m=>f n m (fun z=>K z S) D) D) D) (gen tt ng o e t S K)⟩) (og y)) (og x)) (binF op)
theorem vBin_ok {o:Oper} {op:BinOp} {T T':TypeId} {x y:Operand} {ti:TyI} (ho:o.op= .binOp op T x y T') (ht:tt T=some ti):VOk tt ng o (vBin tt ng o op x y).val:=by
  intro e t S K
  show (og x).val t (fun a=>(og y).val t fun b=>asN a (fun n=>asN b (fun m=>(binF op).val n m (fun z=>K z S) (gen tt ng o e t S K)) (gen tt ng o e t S K)) (gen tt ng o e t S K))=_
  rw [og_eq,og_eq]
  refine asN_cases _ _ _ _ (fun n hn=>asN_cases _ _ _ _ (fun m hm=>bin_ok op (viewH S.f) ti n m _ _ _ (fun z hz=>(gen_no tt ng (fun f a b h=>by rw [ho] at h;cases h) (op2_plain tt ng (fun T y h=>by rw [ho] at h;cases h) (fun T y z h=>by rw [ho] at h;cases h) ?_)).symm) rfl) rfl) rfl
  unfold evOp
  rw [ho]
  dsimp only
  rw [ht,hn,hm]
  exact hz
theorem viewH_some {h:Nat→Option Blk} {b:Nat} {x:Blk} (e:h b=some x):viewH h b=some x.view:=by unfold viewH;rw [e]
noncomputable def vIaS (o:Oper) (sz:Nat) (x y:Operand):Bx VF:=
  Bx.rec (motive:=fun _=>Bx VF) (fun gx=>Bx.rec (motive:=fun _=>Bx VF) (fun gy=>
    ⟨fun e t S K=>gx t fun a=>gy t fun i=>(fun D=>asN i (fun i=>asPS a (fun _ _=>D) (fun b off es n _=>bkK S b (fun _=>ifK (Nat.beq es sz) (ifK (Nat.ble (Nat.succ i) n) (fnm (Nat.add off (Nat.mul i sz)) fun z=>K (.p b z) S) D) D) D) D) D) (gen tt ng o e t S K)⟩) (og y)) (og x)
theorem vIaS_ok {o:Oper} {T:TypeId} {x y:Operand} {ti:TyI} {el sz:Nat} (ho:o.op= .indexAddr T x y) (ht:tt T=some ti) (hk:ti.kind= .slice el sz) (h1:Nat.ble 1 sz=true):VOk tt ng o (vIaS tt ng o sz x y).val:=by
  intro e t S K
  show (og x).val t (fun a=>(og y).val t fun i=>asN i (fun i=>asPS a (fun _ _=>gen tt ng o e t S K) (fun b off es n _=>bkK S b (fun _=>ifK (Nat.beq es sz) (ifK (Nat.ble (Nat.succ i) n) (fnm (Nat.add off (Nat.mul i sz)) fun z=>K (.p b z) S) (gen tt ng o e t S K)) (gen tt ng o e t S K)) (gen tt ng o e t S K)) (gen tt ng o e t S K)) (gen tt ng o e t S K))=_
  rw [og_eq,og_eq]
  refine asN_cases _ _ _ _ (fun i hi=>asPS_cases _ _ _ _ _ (fun _ _ _=>rfl) (fun b off es n c hx=>bkK_r (fun blk hb=>ifK_r (fun c1=>ifK_r (fun c2=>?_) rfl) rfl) rfl) rfl) rfl
  rw [fnm_eq]
  refine (gen_no tt ng (fun f a b h=>by rw [ho] at h;cases h) (op2_plain tt ng (fun T y h=>by rw [ho] at h;cases h) (fun T y z h=>by rw [ho] at h;cases h) ?_)).symm
  unfold evOp
  rw [ho]
  dsimp only
  rw [ht,hi,hx]
  dsimp only
  unfold evIdxSl
  rw [hk,viewH_some hb]
  dsimp only
  rw [h1,c1,show Nat.ble (i+1) n=true from c2]
  rfl
noncomputable def vIaA (o:Oper) (m sz:Nat) (x y:Operand):Bx VF:=
  Bx.rec (motive:=fun _=>Bx VF) (fun gx=>Bx.rec (motive:=fun _=>Bx VF) (fun gy=>
    ⟨fun e t S K=>gx t fun a=>gy t fun i=>(fun D=>asN i (fun i=>asP a (fun b off=>bkK S b (fun _=>ifK (Nat.ble (Nat.succ i) m) (fnm (Nat.add off (Nat.mul i sz)) fun z=>K (.p b z) S) D) D) D) D) (gen tt ng o e t S K)⟩) (og y)) (og x)
theorem vIaA_ok {o:Oper} {T:TypeId} {x y:Operand} {ti:TyI} {m el sz:Nat} (ho:o.op= .indexAddr T x y) (ht:tt T=some ti) (hk:ti.kind= .array m el sz) (h1:Nat.ble 1 sz=true):VOk tt ng o (vIaA tt ng o m sz x y).val:=by
  intro e t S K
  show (og x).val t (fun a=>(og y).val t fun i=>asN i (fun i=>asP a (fun b off=>bkK S b (fun _=>ifK (Nat.ble (Nat.succ i) m) (fnm (Nat.add off (Nat.mul i sz)) fun z=>K (.p b z) S) (gen tt ng o e t S K)) (gen tt ng o e t S K)) (gen tt ng o e t S K)) (gen tt ng o e t S K))=_
  rw [og_eq,og_eq]
  refine asN_cases _ _ _ _ (fun i hi=>asP_cases _ _ _ _ (fun b off hx=>bkK_r (fun blk hb=>ifK_r (fun c2=>?_) rfl) rfl) rfl) rfl
  rw [fnm_eq]
  refine (gen_no tt ng (fun f a b h=>by rw [ho] at h;cases h) (op2_plain tt ng (fun T y h=>by rw [ho] at h;cases h) (fun T y z h=>by rw [ho] at h;cases h) ?_)).symm
  unfold evOp
  rw [ho]
  dsimp only
  rw [ht,hi,hx]
  dsimp only
  unfold evIdxArr
  rw [hk,viewH_some hb]
  dsimp only
  rw [h1,show Nat.ble (i+1) m=true from c2]
  rfl
noncomputable def vIx (o:Oper) (m:Nat) (x y:Operand):Bx VF:=
  Bx.rec (motive:=fun _=>Bx VF) (fun gx=>Bx.rec (motive:=fun _=>Bx VF) (fun gy=>
    ⟨fun e t S K=>gx t fun a=>gy t fun i=>(fun D=>asN i (fun i=>asA a (fun xs=>ifK (Nat.ble (Nat.succ i) m) (lgK xs i (fun v=>K v S) D) D) D) D) (gen tt ng o e t S K)⟩) (og y)) (og x)
theorem vIx_ok {o:Oper} {T:TypeId} {x y:Operand} {ti te:TyI} {m el:Nat} (ho:o.op= .index T x y) (ht:tt T=some ti) (hk:ti.kind= .array m el 1) (he:tt el=some te) (ha:te.agg=false):VOk tt ng o (vIx tt ng o m x y).val:=by
  intro e t S K
  show (og x).val t (fun a=>(og y).val t fun i=>asN i (fun i=>asA a (fun xs=>ifK (Nat.ble (Nat.succ i) m) (lgK xs i (fun v=>K v S) (gen tt ng o e t S K)) (gen tt ng o e t S K)) (gen tt ng o e t S K)) (gen tt ng o e t S K))=_
  rw [og_eq,og_eq]
  refine asN_cases _ _ _ _ (fun i hi=>asA_cases _ _ _ _ (fun xs hx=>ifK_r (fun c2=>lgK_r (fun y hy hl=>?_) rfl) rfl) rfl) rfl
  refine (gen_no tt ng (fun f a b h=>by rw [ho] at h;cases h) (op2_plain tt ng (fun T y h=>by rw [ho] at h;cases h) (fun T y z h=>by rw [ho] at h;cases h) ?_)).symm
  unfold evOp
  rw [ho]
  dsimp only
  rw [ht,hi,hx]
  dsimp only
  unfold evIdxAgg
  rw [hk]
  dsimp only
  rw [he]
  dsimp only
  rw [ha,Nat.mul_one,hy]
  show ifB _ _=_
  rw [show Nat.ble (i+1) m=true from c2,show Nat.ble (i+1) xs.length=true from Nat.ble_eq_true_of_le hl]
  rfl
noncomputable def vLd (o:Oper) (x:Operand):Bx VF:=
  Bx.rec (motive:=fun _=>Bx VF) (fun gx=>
    ⟨fun e t S K=>gx t fun a=>(fun D=>asP a (fun b off=>bkK S b (fun blk=>caK blk (fun cs=>lgK cs off (fun v=>K v S) D) (fun n tr=>ifK (Nat.ble (Nat.succ off) n) (Option.rec (motive:=fun _=>Bool) (K .u S) (fun v=>fv v fun v=>K v S) (getK off tr)) D) D) D) D) (gen tt ng o e t S K)⟩) (og x)
theorem vLd_ok {o:Oper} {T:TypeId} {x:Operand} {ti:TyI} (ho:o.op= .load T x) (ht:tt T=some ti) (ha:ti.agg=false) (hs:ti.size=1):VOk tt ng o (vLd tt ng o x).val:=by
  intro e t S K
  show (og x).val t (fun a=>asP a (fun b off=>bkK S b (fun blk=>caK blk (fun cs=>lgK cs off (fun v=>K v S) (gen tt ng o e t S K)) (fun n tr=>ifK (Nat.ble (Nat.succ off) n) (Option.rec (motive:=fun _=>Bool) (K .u S) (fun v=>fv v fun v=>K v S) (getK off tr)) (gen tt ng o e t S K)) (gen tt ng o e t S K)) (gen tt ng o e t S K)) (gen tt ng o e t S K))=_
  rw [og_eq]
  refine asP_cases _ _ _ _ (fun b off hx=>bkK_r (fun blk hb=>caK_r (fun cs hcs=>lgK_r (fun y hy hl=>?_) rfl) (fun n tr hn=>ifK_r (fun c=>?_) rfl) rfl) rfl) rfl
  · refine (gen_no tt ng (fun f a b h=>by rw [ho] at h;cases h) ?_).symm
    subst hcs
    unfold evOp2
    rw [ho]
    dsimp only
    rw [ht,hx]
    dsimp only
    unfold evLdA
    rw [hb]
    dsimp only
    unfold evLoad loadC
    rw [viewH_some hb]
    show upA (match (match Nat.ble (off+ti.size) cs.length with|true=>some ((cs.drop off).take ti.size)|false=>none) with|some xs=>(match VV.mk ti.agg xs with|some y=>some (y,Up.no)|none=>none)|none=>none)=_
    rw [hs,show Nat.ble (off+1) cs.length=true from Nat.ble_eq_true_of_le hl,hy,ha]
    rfl
  · subst hn
    have e1:Option.rec (motive:=fun _=>Bool) (K .u S) (fun v=>fv v fun v=>K v S) (getK off tr)=K (tvf tr off) S:=by
      rw [getK_eq]
      unfold tvf
      cases Tr.get tr off with
      | none=>rfl
      | some v=>exact fv_eq v _
    rw [e1]
    refine (gen_no tt ng (fun f a b h=>by rw [ho] at h;cases h) ?_).symm
    unfold evOp2
    rw [ho]
    dsimp only
    rw [ht,hx]
    dsimp only
    unfold evLdA
    rw [hb]
    dsimp only
    rw [ha,hs,c]
    rfl
noncomputable def vSt (o:Oper) (x y:Operand):Bx VF:=
  Bx.rec (motive:=fun _=>Bx VF) (fun gx=>Bx.rec (motive:=fun _=>Bx VF) (fun gy=>
    ⟨fun e t S K=>gx t fun a=>gy t fun y=>(fun D=>asP a (fun b off=>bkK S b (fun blk=>caK blk (fun _=>D) (fun n tr=>c1K y (ifK (Nat.ble (Nat.succ off) n) (ifK (Nat.ble ng b) (ifK (Nat.ble e.lim b) (ifK (Tr.fits off) (ifK (Tr.fits b) (ifK (Nat.ble (Nat.succ b) S.nb)
      (setK off tr (some y) fun tr=>setK b S.h (some (.arr n tr)) fun h=>K .u ⟨h,S.nb⟩) D) D) D) D) D) D) D) D) D) D) (gen tt ng o e t S K)⟩) (og y)) (og x)
theorem vSt_ok {o:Oper} {T:TypeId} {x y:Operand} {ti:TyI} (ho:o.op= .store T x y) (ht:tt T=some ti) (hs:ti.size=1):VOk tt ng o (vSt tt ng o x y).val:=by
  intro e t S K
  show (og x).val t (fun a=>(og y).val t fun y=>(fun D=>asP a (fun b off=>bkK S b (fun blk=>caK blk (fun _=>D) (fun n tr=>c1K y (ifK (Nat.ble (Nat.succ off) n) (ifK (Nat.ble ng b) (ifK (Nat.ble e.lim b) (ifK (Tr.fits off) (ifK (Tr.fits b) (ifK (Nat.ble (Nat.succ b) S.nb)
      (setK off tr (some y) fun tr=>setK b S.h (some (.arr n tr)) fun h=>K .u ⟨h,S.nb⟩) D) D) D) D) D) D) D) D) D) D) (gen tt ng o e t S K))=_
  rw [og_eq,og_eq]
  refine asP_cases _ _ _ _ (fun b off hx=>bkK_r (fun blk hb=>caK_r (fun _ _=>rfl) (fun n tr hn=>c1K_r (fun hy=>ifK_r (fun c1=>ifK_r (fun c2=>ifK_r (fun c3=>ifK_r (fun c4=>ifK_r (fun c5=>ifK_r (fun c6=>?_) rfl) rfl) rfl) rfl) rfl) rfl) rfl) rfl) rfl) rfl
  rw [setK_eq,setK_eq]
  subst hn
  refine (gen_up tt ng (u:=.set b (.arr n (Tr.set tr off (some (evV (tvf t) y))))) (fun f a b h=>by rw [ho] at h;cases h) ?_ ?_).symm
  · unfold evOp2
    rw [ho]
    dsimp only
    rw [ht,hx]
    dsimp only
    unfold evStA
    rw [hb,hy]
    dsimp only
    rw [hs,show Nat.ble (off+1) n=true from c1,c2,c3,c4]
    rfl
  · unfold Up.ap
    dsimp only
    rw [c5,show Nat.ble (b+1) S.nb=true from c6]
    rfl
noncomputable def vFa (o:Oper) (d:Nat) (x:Operand):Bx VF:=
  Bx.rec (motive:=fun _=>Bx VF) (fun gx=>
    ⟨fun e t S K=>gx t fun a=>(fun D=>asP a (fun b off=>bkK S b (fun _=>fnm (Nat.add off d) fun z=>K (.p b z) S) D) D) (gen tt ng o e t S K)⟩) (og x)
theorem vFa_ok {o:Oper} {T:TypeId} {x:Operand} {f:Nat} {ti:TyI} {offs:List (Nat×Nat×Bool)} {d c:Nat} {q:Bool} (ho:o.op= .fieldAddr T x f) (ht:tt T=some ti) (hk:ti.kind= .struct offs) (hf:offs[f]?=some (d,c,q)) (hc:Nat.ble 1 c=true):VOk tt ng o (vFa tt ng o d x).val:=by
  intro e t S K
  show (og x).val t (fun a=>asP a (fun b off=>bkK S b (fun _=>fnm (Nat.add off d) fun z=>K (.p b z) S) (gen tt ng o e t S K)) (gen tt ng o e t S K))=_
  rw [og_eq]
  refine asP_cases _ _ _ _ (fun b off hx=>bkK_r (fun blk hb=>?_) rfl) rfl
  rw [fnm_eq]
  refine (gen_no tt ng (fun f a b h=>by rw [ho] at h;cases h) (op2_plain tt ng (fun T y h=>by rw [ho] at h;cases h) (fun T y z h=>by rw [ho] at h;cases h) ?_)).symm
  unfold evOp
  rw [ho]
  dsimp only
  rw [ht,hx]
  dsimp only
  unfold evFieldAddr
  rw [hk,viewH_some hb]
  dsimp only
  rw [hf]
  dsimp only
  rw [hc]
  rfl
noncomputable def vop (o:Oper):Bx VF:=match o.op with
  | .move x=>vMv x
  | .assign x=>vMv x
  | .binOp op T x y _ => match tt T with
    | some _=>vBin tt ng o op x y
    | none=>⟨gen tt ng o⟩
  | .indexAddr T x y => match tt T with
    | some ti => match ti.kind with
      | .slice _ sz => match Nat.ble 1 sz with
        | true=>vIaS tt ng o sz x y
        | false=>⟨gen tt ng o⟩
      | .array m _ sz => match Nat.ble 1 sz with
        | true=>vIaA tt ng o m sz x y
        | false=>⟨gen tt ng o⟩
      | _=>⟨gen tt ng o⟩
    | none=>⟨gen tt ng o⟩
  | .index T x y => match tt T with
    | some ti => match ti.kind with
      | .array m el 1 => match tt el with
        | some te => match te.agg with
          | false=>vIx tt ng o m x y
          | true=>⟨gen tt ng o⟩
        | none=>⟨gen tt ng o⟩
      | _=>⟨gen tt ng o⟩
    | none=>⟨gen tt ng o⟩
  | .load T x => match tt T with
    | some ti => match ti.agg, Nat.beq ti.size 1 with
      | false,true=>vLd tt ng o x
      | _,_=>⟨gen tt ng o⟩
    | none=>⟨gen tt ng o⟩
  | .store T x y => match tt T with
    | some ti => match Nat.beq ti.size 1 with
      | true=>vSt tt ng o x y
      | false=>⟨gen tt ng o⟩
    | none=>⟨gen tt ng o⟩
  | .fieldAddr T x f => match tt T with
    | some ti => match ti.kind with
      | .struct offs => match offs[f]? with
        | some (d, c, _) => match Nat.ble 1 c with
          | true=>vFa tt ng o d x
          | false=>⟨gen tt ng o⟩
        | none=>⟨gen tt ng o⟩
      | _=>⟨gen tt ng o⟩
    | none=>⟨gen tt ng o⟩
  | _=>⟨gen tt ng o⟩
theorem vop_ok (o:Oper):VOk tt ng o (vop tt ng o).val:=by
  have hg:VOk tt ng o (Bx.mk (gen tt ng o)).val:=fun _ _ _ _=>rfl
  unfold vop
  split
  · rename_i x ho;exact vMv_ok tt ng (.inl ho)
  · rename_i x ho;exact vMv_ok tt ng (.inr ho)
  · rename_i op T x y T' ho
    split
    · rename_i ti ht;exact vBin_ok tt ng ho ht
    · exact hg
  · rename_i T x y ho
    split
    · rename_i ti ht
      split
      · rename_i el sz hk
        split
        · rename_i h1;exact vIaS_ok tt ng ho ht hk h1
        · exact hg
      · rename_i m el sz hk
        split
        · rename_i h1;exact vIaA_ok tt ng ho ht hk h1
        · exact hg
      · exact hg
    · exact hg
  · rename_i T x y ho
    split
    · rename_i ti ht
      split
      · rename_i m el hk
        split
        · rename_i te he
          split
          · rename_i ha;exact vIx_ok tt ng ho ht hk he ha
          · exact hg
        · exact hg
      · exact hg
    · exact hg
  · rename_i T x ho
    split
    · rename_i ti ht
      split
      · rename_i ha hs;exact vLd_ok tt ng ho ht ha (Nat.eq_of_beq_eq_true hs)
      · exact hg
    · exact hg
  · rename_i T x y ho
    split
    · rename_i ti ht
      split
      · rename_i hs;exact vSt_ok tt ng ho ht (Nat.eq_of_beq_eq_true hs)
      · exact hg
    · exact hg
  · rename_i T x f ho
    split
    · rename_i ti ht
      split
      · rename_i offs hk
        split
        · rename_i d c q hf
          split
          · rename_i hc;exact vFa_ok tt ng ho ht hk hf hc
          · exact hg
        · exact hg
      · exact hg
    · exact hg
  · exact hg
end
end Go.Vx
end
section
namespace Go.Vx
open Go.Ax (TtOk TyI nthO masks drawOk)
abbrev PF:=Tr VV→VV→(Tr VV→Bool)→Bool
noncomputable def pt (N:Nat) (d:Option Tmp):Bx PF:=match d with
  | none=>⟨fun t _ K=>K t⟩
  | some d => match Nat.ble (d + 1) N && Tr.fits d with
    | true=>Bx.rec (motive:=fun _=>Bx PF) (fun s=>⟨fun t v K=>s t (some v) K⟩) (pset d)
    | false=>⟨fun _ _ _=>false⟩
theorem pt_eq (N:Nat) (d:Option Tmp) (t:Tr VV) (v:VV) (K:Tr VV→Bool):(pt N d).val t v K=match putT N t d v with|some t=>K t|none=>false:=by
  unfold pt putT
  cases d with
  | none=>rfl
  | some d =>
    dsimp only
    cases (Nat.ble (d+1) N && Tr.fits d) with
    | true=>exact pset_eq d t (some v) K
    | false=>rfl
section
variable (tt:TypeId→Option TyI) (ng N:Nat) (ops:Array Oper)
noncomputable def sop (o:Oper):Bx RF:=match o.guard with
  | none=>Bx.rec (motive:=fun _=>Bx RF) (fun f=>Bx.rec (motive:=fun _=>Bx RF) (fun p=>⟨fun e t S K=>f e t S fun v S=>p t v fun t=>K t S⟩) (pt N o.dst)) (vop tt ng o)
  | some _ => Bx.rec (motive := fun _ => Bx RF) (fun f => Bx.rec (motive := fun _ => Bx RF) (fun p => ⟨fun e t S K => match wantB ops o t with
    | some true=>f e t S fun v S=>p t v fun t=>K t S
    | some false=>p t (.tup []) fun t=>K t S
    | none=>false⟩) (pt N o.dst)) (vop tt ng o)
noncomputable def sops (l:List Oper):Bx RF:=match l with
  | []=>⟨fun _ t S K=>K t S⟩
  | [o]=>sop tt ng N ops o
  | o :: r=>Bx.rec (motive:=fun _=>Bx RF) (fun f=>Bx.rec (motive:=fun _=>Bx RF) (fun g=>⟨fun e t S K=>f e t S fun t S=>g e t S K⟩) (sops r)) (sop tt ng N ops o)
noncomputable def drK (call:CallK) (lim:Nat):List Oper→List Nat→Nat→Tr VV→Sx→List Dv→(Tr VV→Sx→Bool)→Bool
  | [],_,_,t,S,_,K=>K t S
  | _ :: _,[],_,_,_,_,_=>false
  | o :: rest, m :: ms, i, t, S, acc, K => match wantB ops o t with
    | some true => match isCall o with
      | true => match calmB m acc 0 with
        | true => match allB m i && laterB i ms with
          | true=>oprK tt ng call lim S (evV (tvf t)) o fun v S'=>(pt N o.dst).val t v fun t'=>drK call lim rest ms (i+1) t' S' (acc++ [⟨S.nb,S'.nb,none,none⟩]) K
          | false=>oprK tt ng call S.nb S (evV (tvf t)) o fun v S'=>(pt N o.dst).val t v fun t'=>drK call lim rest ms (i+1) t' S' (acc++ [⟨S.nb,S'.nb,none,none⟩]) K
        | false=>false
      | false => evK tt ng lim S.nb (viewF S m acc (rdO (evV (tvf t)) o)) (evV (tvf t)) o fun v u => apK u S fun S' => match (match u.old with | some b => blindB m b acc 0 && !(exclB m b acc 0) | none => true) with
        | true=>fv v fun v=>(pt N o.dst).val t v fun t'=>drK call lim rest ms (i+1) t' S' (acc++ [⟨S.nb,S'.nb,u.old,some (rdO (evV (tvf t)) o)⟩]) K
        | false=>false
    | some false=>(pt N o.dst).val t (.tup []) fun t'=>drK call lim rest ms (i+1) t' S (acc++ [⟨S.nb,S.nb,none,some []⟩]) K
    | none=>false
noncomputable def rg (draw:Bool):Bx RF:=match Go.Vx.okOps ng ops,draw with
  | true,false=>sops tt ng N ops ops.toList
  | true, true => match drawOk N ops with
    | true=>⟨fun e t S K=>drK tt ng N ops e.call e.lim ops.toList (masks ops.toList []) 0 t S [] K⟩
    | false=>⟨fun _ _ _ _=>false⟩
  | false,_=>⟨fun _ _ _ _=>false⟩
end
section
variable {tt:TypeId→Option TyI} {ng N:Nat} {ops:Array Oper} {call:CallK} {cF:CallF}
theorem vop_eq (e:En) (hc:CallEq e.call cF) (o:Oper) (t:Tr VV) (S:Sx) (K:VV→Sx→Bool):(vop tt ng o).val e t S K=thenV (evOpr tt ng cF e.lim S (evV (tvf t)) o) K:=by
  rw [vop_ok tt ng o e t S K]
  exact oprK_eq tt ng hc _ _ _ _ _
theorem sops_eq (e:En) (hc:CallEq e.call cF):∀(l:List Oper) (t:Tr VV) (S:Sx) (K:Tr VV→Sx→Bool),(sops tt ng N ops l).val e t S K=thenR (seqGo tt ng cF e.lim N ops l t S) K:=by
  have one:∀(o:Oper) (rest:List Oper) (t:Tr VV) (S:Sx) (K K':Tr VV→Sx→Bool),(∀t S,K' t S=thenR (seqGo tt ng cF e.lim N ops rest t S) K)→(sop tt ng N ops o).val e t S K'=thenR (seqGo tt ng cF e.lim N ops (o :: rest) t S) K:=by
    intro o rest t S K K' hK
    have h1:∀t S v,((pt N o.dst).val t v fun t=>K' t S)=thenR (match putT N t o.dst v with|some t'=>seqGo tt ng cF e.lim N ops rest t' S|none=>none) K:=by
      intro t S v
      rw [pt_eq]
      cases putT N t o.dst v with
      | none=>rfl
      | some t'=>exact hK t' S
    have h2:((vop tt ng o).val e t S fun v S=>(pt N o.dst).val t v fun t=>K' t S)=thenR (match evOpr tt ng cF e.lim S (evV (tvf t)) o with
        | some (v,S')=>(match putT N t o.dst v with|some t'=>seqGo tt ng cF e.lim N ops rest t' S'|none=>none)
        | none=>none) K:=by
      rw [vop_eq e hc]
      cases evOpr tt ng cF e.lim S (evV (tvf t)) o with
      | none=>rfl
      | some x=>obtain ⟨v,S'⟩:=x;exact h1 _ _ _
    rw [seqGo]
    unfold sop
    cases hg:o.guard with
    | none =>
      have:wantB ops o t=some true:=by unfold wantB;rw [hg]
      rw [this]
      exact h2
    | some g =>
      show (match wantB ops o t with
        | some true=>(vop tt ng o).val e t S fun v S=>(pt N o.dst).val t v fun t=>K' t S
        | some false=>(pt N o.dst).val t (.tup []) fun t=>K' t S
        | none=>false)=_
      cases wantB ops o t with
      | none=>rfl
      | some b => cases b with
        | true=>exact h2
        | false=>exact h1 _ _ _
  intro l
  induction l with
  | nil=>intro t S K;rfl
  | cons o r ih =>
    intro t S K
    cases r with
    | nil=>exact one o [] t S K K fun t S=>rfl
    | cons o' r'=>exact one o (o' :: r') t S K _ fun t S=>ih t S K
theorem drK_eq (hc:CallEq call cF) (lim:Nat):∀(l:List Oper) (ms:List Nat) (i:Nat) (t:Tr VV) (S:Sx) (acc:List Dv) (K:Tr VV→Sx→Bool),drK tt ng N ops call lim l ms i t S acc K=thenR (drGo tt ng cF lim N ops l ms i t S acc) K
  | [],_,_,_,_,_,_=>rfl
  | _ :: _,[],_,_,_,_,_=>rfl
  | o :: rest, m :: ms, i, t, S, acc, K => by
    have h1:∀t S v acc,((pt N o.dst).val t v fun t'=>drK tt ng N ops call lim rest ms (i+1) t' S acc K)=thenR (match putT N t o.dst v with|some t'=>drGo tt ng cF lim N ops rest ms (i+1) t' S acc|none=>none) K:=by
      intro t S v acc
      rw [pt_eq]
      cases putT N t o.dst v with
      | none=>rfl
      | some t'=>exact drK_eq hc lim rest ms (i+1) t' S acc K
    have h2:∀l,(oprK tt ng call l S (evV (tvf t)) o fun v S'=>(pt N o.dst).val t v fun t'=>drK tt ng N ops call lim rest ms (i+1) t' S' (acc++ [⟨S.nb,S'.nb,none,none⟩]) K)=thenR (match evOpr tt ng cF l S (evV (tvf t)) o with
        | some (v,S')=>(match putT N t o.dst v with|some t'=>drGo tt ng cF lim N ops rest ms (i+1) t' S' (acc++ [⟨S.nb,S'.nb,none,none⟩])|none=>none)
        | none=>none) K:=by
      intro l
      rw [oprK_eq tt ng hc]
      cases evOpr tt ng cF l S (evV (tvf t)) o with
      | none=>rfl
      | some x=>obtain ⟨v,S'⟩:=x;exact h1 _ _ _ _
    rw [drK,drGo]
    cases wantB ops o t with
    | none=>rfl
    | some b =>
      cases b with
      | false=>exact h1 _ _ _ _
      | true =>
        dsimp only
        cases isCall o with
        | true =>
          dsimp only
          cases calmB m acc 0 with
          | false=>rfl
          | true =>
            dsimp only
            cases (allB m i && laterB i ms) with
            | true=>exact h2 _
            | false=>exact h2 _
        | false =>
          dsimp only
          rw [evK_eq]
          cases evOp2 tt ng lim S.nb (viewF S m acc (rdO (evV (tvf t)) o)) (evV (tvf t)) o with
          | none=>rfl
          | some x =>
            obtain ⟨v,u⟩:=x
            unfold thenU
            dsimp only
            rw [apK_eq]
            cases u.ap S with
            | none=>rfl
            | some S' =>
              dsimp only
              cases u.old with
              | none =>
                dsimp only
                rw [fv_eq,h1]
                cases putT N t o.dst v <;> rfl
              | some b =>
                dsimp only
                generalize (blindB m b acc 0 && !(exclB m b acc 0))=c
                cases c with
                | true =>
                  dsimp only
                  rw [fv_eq,h1]
                  cases putT N t o.dst v <;> rfl
                | false =>
                  dsimp only
                  cases putT N t o.dst v <;> rfl
theorem rg_eq (e:En) (hc:CallEq e.call cF) (draw:Bool) (t:Tr VV) (S:Sx) (K:Tr VV→Sx→Bool):(rg tt ng N ops draw).val e t S K=thenR (evReg tt ng cF e.lim N ops draw t S) K:=by
  unfold rg evReg
  cases okOps ng ops with
  | false=>rfl
  | true =>
    cases draw with
    | false=>exact sops_eq e hc _ _ _ _
    | true =>
      dsimp only
      cases drawOk N ops with
      | true=>exact drK_eq hc _ _ _ _ _ _ _ _
      | false=>rfl
end
end Go.Vx
end
section
namespace Go.Vx
open Go.Ax
abbrev KN:=Tr VV→List Nat→Sx→Bool
abbrev KX:=Ex→Tr VV→List Nat→Sx→Bool
abbrev CF:=En→Tr VV→List Nat→Sx→KN→KX→Bool
def finX (ex:Ex) (t:Tr VV) (ms:List Nat) (S:Sx) (Kn:KN) (Kx:KX):Bool:=match ex with
  | .norm=>Kn t ms S
  | .ret=>Kx .ret t ms S
  | .exit i=>Kx (.exit i) t ms S
def finE (r:Option (Ex×Fs)) (Kn:KN) (Kx:KX):Bool:=match r with
  | some (ex,s)=>finX ex s.t s.ms s.S Kn Kx
  | none=>false
def rangeEndK0 (b:Option Blk) (K:LoopState→Option Code→Tr VV→Nat→Array Tmp→Code→Code→Bool):Bool:=match b with
  | some (.loop st pend t0 N0 ps0 asg0 body0)=>K st pend t0 N0 ps0 asg0 body0
  | _=>false
noncomputable def rangeEndK (t:Tr VV) (ms1:List Nat) (lb:Nat) (S2:Sx) (Kn:KN) (Kx:KX):Bool:=rangeEndK0 (getK lb S2.h) fun st pend t0 N0 ps0 asg0 body0=>match st with
  | .busy=>false
  | _ => match jumpX pend with
    | some ex=>ifK (Tr.fits lb) (setK lb S2.h (some (.loop .exhausted pend t0 N0 ps0 asg0 body0)) fun h=>finX ex t ms1 ⟨h,S2.nb⟩ Kn Kx) false
    | none=>false
theorem rangeEndK_eq (t:Tr VV) (ms1:List Nat) (lb:Nat) (S2:Sx) (Kn:KN) (Kx:KX):rangeEndK t ms1 lb S2 Kn Kx=finE (rangeEnd t ms1 lb S2) Kn Kx:=by
  unfold rangeEndK rangeEnd
  rw [getK_eq]
  show rangeEndK0 (S2.f lb) _=_
  cases S2.f lb with
  | none=>rfl
  | some x =>
    cases x with
    | loop st pend t0 N0 ps0 asg0 body0 =>
      unfold rangeEndK0
      dsimp only
      cases st with
      | busy=>rfl
      | _ =>
        dsimp only
        cases jumpX pend with
        | none=>rfl
        | some ex =>
          dsimp only
          rw [setK_eq]
          cases Tr.fits lb <;> rfl
    | _=>rfl
section
variable (isFn:FuncId→Bool) (N:Nat)
noncomputable def rangeK (e:En) (g:VV) (ps:Array Tmp) (asg body:Code) (t:Tr VV) (ms:List Nat) (S:Sx) (Kn:KN) (Kx:KX):Bool:=match g with
  | .fn (.func gg) us vs => match isFn gg, e.rnd with
    | true, none => match Tr.fits (S.nb + 1) && Tr.fits S.nb with
      | true=>setK S.nb S.h (some .dfr) fun h=>setK (S.nb+1) h (some (.loop .ready none t N ps asg body)) fun h=>fnm (S.nb+2) fun n2=>e.call (.f gg) (us++ [.yl (S.nb+1)]++vs) e.lim ⟨h,n2⟩ fun _ S2=>rangeEndK t (S.nb :: ms) (S.nb+1) S2 Kn Kx
      | false=>false
    | true, some rb => match Tr.fits S.nb, S.f rb with
      | true,some (.loop _ _ _ _ _ _ _)=>setK S.nb S.h (some (.loop .ready none t N ps asg body)) fun h=>fnm (S.nb+1) fun n1=>e.call (.f gg) (us++ [.yl S.nb]++vs) e.lim ⟨h,n1⟩ fun _ S2=>rangeEndK t ms S.nb S2 Kn Kx
      | _,_=>false
    | false,_=>false
  | _=>false
variable {isFn N}
theorem rangeK_eq {cF:CallF} (e:En) (hc:CallEq e.call cF) (g:VV) (ps:Array Tmp) (asg body:Code) (t:Tr VV) (ms:List Nat) (S:Sx) (Kn:KN) (Kx:KX):rangeK isFn N e g ps asg body t ms S Kn Kx=finE (evRange isFn cF e.lim N e.rnd g ps asg body ⟨t,ms,S⟩) Kn Kx:=by
  have h1:∀(gg:FuncId) (xs:List VV) (S0:Sx) (t:Tr VV) (ms1:List Nat) (lb:Nat),(e.call (.f gg) xs e.lim S0 fun _ S2=>rangeEndK t ms1 lb S2 Kn Kx)=finE (match cF (.f gg) xs e.lim S0 with|some (_,S2)=>rangeEnd t ms1 lb S2|none=>none) Kn Kx:=by
    intro gg xs S0 t ms1 lb
    rw [hc]
    cases cF (.f gg) xs e.lim S0 with
    | none=>rfl
    | some x=>obtain ⟨v,S2⟩:=x;exact rangeEndK_eq _ _ _ _ _ _
  unfold rangeK evRange
  cases g with
  | fn f us vs =>
    cases f with
    | func gg =>
      dsimp only
      cases isFn gg with
      | false=>rfl
      | true =>
        cases e.rnd with
        | none =>
          dsimp only
          cases (Tr.fits (S.nb+1) && Tr.fits S.nb) with
          | false=>rfl
          | true =>
            dsimp only
            rw [setK_eq,setK_eq,fnm_eq]
            exact h1 _ _ _ _ _ _
        | some rb =>
          dsimp only
          cases Tr.fits S.nb with
          | false=>rfl
          | true =>
            cases S.f rb with
            | none=>rfl
            | some x =>
              cases x with
              | loop st pend t0 N0 ps0 asg0 body0 =>
                dsimp only
                rw [setK_eq,fnm_eq]
                exact h1 _ _ _ _ _ _
              | _=>rfl
    | _=>rfl
  | _=>rfl
end
section
variable (tt:TypeId→Option TyI) (ng:Nat) (isFn:FuncId→Bool) (fuel N:Nat)
noncomputable def exK (id:Nat) (Kn:KN) (Kx:KX) (ex:Ex):Tr VV→List Nat→Sx→Bool:=
  Ex.rec (motive:=fun _=>Tr VV→List Nat→Sx→Bool) Kn (Kx .ret) (fun i=>Bool.rec (motive:=fun _=>Tr VV→List Nat→Sx→Bool) (Kx (.exit i)) Kn (Nat.beq i id)) ex
noncomputable def loopK (f:CF) (e:En) (Kx:KX) (n:Nat):KN:=Nat.rec (motive:=fun _=>KN) (fun _ _ _=>false) (fun _ ih t ms S=>f e t ms S ih Kx) n
noncomputable def cc:Code→Bx CF
  | .skip=>⟨fun _ t ms S Kn _=>Kn t ms S⟩
  | .label _=>⟨fun _ t ms S Kn _=>Kn t ms S⟩
  | .region _ ops draw=>Bx.rec (motive:=fun _=>Bx CF) (fun f=>⟨fun e t ms S Kn _=>f e t S fun t S=>Kn t ms S⟩) (rg tt ng N ops draw)
  | .seq x y=>Bx.rec (motive:=fun _=>Bx CF) (fun f=>Bx.rec (motive:=fun _=>Bx CF) (fun g=>⟨fun e t ms S Kn Kx=>f e t ms S (fun t ms S=>g e t ms S Kn Kx) Kx⟩) (cc y)) (cc x)
  | .cond c x y => match okOpd ng c with
    | true=>Bx.rec (motive:=fun _=>Bx CF) (fun gc=>Bx.rec (motive:=fun _=>Bx CF) (fun f=>Bx.rec (motive:=fun _=>Bx CF) (fun g=>⟨fun e t ms S Kn Kx=>gc t fun v=>asB v (f e t ms S Kn Kx) (g e t ms S Kn Kx) false⟩) (cc y)) (cc x)) (og c)
    | false=>⟨fun _ _ _ _ _ _=>false⟩
  | .block id x=>Bx.rec (motive:=fun _=>Bx CF) (fun f=>⟨fun e t ms S Kn Kx=>f e t ms S Kn (exK id Kn Kx)⟩) (cc x)
  | .loop x=>Bx.rec (motive:=fun _=>Bx CF) (fun f=>⟨fun e t ms S _ Kx=>loopK f e Kx fuel t ms S⟩) (cc x)
  | .scope x=>cc x
  | .rangeFunc g ps asg body => match okOpd ng g with
    | true=>⟨fun e t ms S Kn Kx=>rangeK isFn N e (evV (tvf t) g) ps asg body t ms S Kn Kx⟩
    | false=>⟨fun _ _ _ _ _ _=>false⟩
  | .exit id=>⟨fun _ t ms S _ Kx=>Kx (.exit id) t ms S⟩
  | .ret=>⟨fun _ t ms S _ Kx=>Kx .ret t ms S⟩
  | _=>⟨fun _ _ _ _ _ _=>false⟩
end
section
variable {tt:TypeId→Option TyI} {ng:Nat} {isFn:FuncId→Bool} {fuel N:Nat} {cF:CallF}
theorem loopK_eq {f:CF} {g:Fs→Option (Ex×Fs)} {e:En} (h:∀t ms S Kn Kx,f e t ms S Kn Kx=finE (g ⟨t,ms,S⟩) Kn Kx) (Kn:KN) (Kx:KX):∀(n:Nat) (t:Tr VV) (ms:List Nat) (S:Sx),loopK f e Kx n t ms S=finE (iterC g n ⟨t,ms,S⟩) Kn Kx
  | 0,_,_,_=>rfl
  | n + 1, t, ms, S => by
    show f e t ms S (loopK f e Kx n) Kx=_
    rw [h,iterC]
    cases hg:g ⟨t,ms,S⟩ with
    | none=>rfl
    | some x =>
      obtain ⟨ex,s⟩:=x
      cases ex with
      | norm=>exact loopK_eq h Kn Kx n s.t s.ms s.S
      | _=>rfl
theorem cc_eq (e:En) (hc:CallEq e.call cF):∀(c:Code) (t:Tr VV) (ms:List Nat) (S:Sx) (Kn:KN) (Kx:KX),(cc tt ng isFn fuel N c).val e t ms S Kn Kx=finE (evC tt ng isFn cF e.lim N e.rnd fuel c ⟨t,ms,S⟩) Kn Kx
  | .skip,t,ms,S,Kn,Kx=>rfl
  | .label _,t,ms,S,Kn,Kx=>rfl
  | .region _ ops draw, t, ms, S, Kn, Kx => by
    rw [cc,evC]
    show (rg tt ng N ops draw).val e t S (fun t S=>Kn t ms S)=_
    rw [rg_eq e hc]
    cases evReg tt ng cF e.lim N ops draw t S with
    | none=>rfl
    | some x=>rfl
  | .seq x y, t, ms, S, Kn, Kx => by
    rw [cc,evC]
    show (cc tt ng isFn fuel N x).val e t ms S (fun t ms S=>(cc tt ng isFn fuel N y).val e t ms S Kn Kx) Kx=_
    rw [cc_eq e hc x]
    cases evC tt ng isFn cF e.lim N e.rnd fuel x ⟨t,ms,S⟩ with
    | none=>rfl
    | some r =>
      obtain ⟨ex,s⟩:=r
      cases ex with
      | norm=>exact cc_eq e hc y _ _ _ _ _
      | _=>rfl
  | .cond c x y, t, ms, S, Kn, Kx => by
    rw [cc,evC]
    cases okOpd ng c with
    | false=>rfl
    | true =>
      show (og c).val t (fun v=>asB v ((cc tt ng isFn fuel N x).val e t ms S Kn Kx) ((cc tt ng isFn fuel N y).val e t ms S Kn Kx) false)=_
      rw [og_eq,cc_eq e hc x,cc_eq e hc y]
      show _=finE (match true,evV (tvf t) c with
        | true,.s (.bool true)=>evC tt ng isFn cF e.lim N e.rnd fuel x ⟨t,ms,S⟩
        | true,.s (.bool false)=>evC tt ng isFn cF e.lim N e.rnd fuel y ⟨t,ms,S⟩
        | _,_=>none) Kn Kx
      unfold asB
      cases evV (tvf t) c with
      | s z =>
        cases z with
        | bool b=>cases b <;> rfl
        | _=>rfl
      | _=>rfl
  | .block id x, t, ms, S, Kn, Kx => by
    rw [cc,evC]
    show (cc tt ng isFn fuel N x).val e t ms S Kn (exK id Kn Kx)=_
    rw [cc_eq e hc x]
    cases evC tt ng isFn cF e.lim N e.rnd fuel x ⟨t,ms,S⟩ with
    | none=>rfl
    | some r =>
      obtain ⟨ex,s⟩:=r
      cases ex with
      | exit i =>
        show (Bool.rec (motive:=fun _=>Tr VV→List Nat→Sx→Bool) (Kx (.exit i)) Kn (Nat.beq i id)) s.t s.ms s.S=finE (match Nat.beq i id with|true=>some (.norm,s)|false=>some (.exit i,s)) Kn Kx
        cases Nat.beq i id <;> rfl
      | _=>rfl
  | .loop x, t, ms, S, Kn, Kx => by
    rw [cc,evC]
    exact loopK_eq (fun t ms S Kn Kx=>cc_eq e hc x t ms S Kn Kx) Kn Kx fuel t ms S
  | .scope x, t, ms, S, Kn, Kx => by
    rw [cc,evC]
    exact cc_eq e hc x t ms S Kn Kx
  | .rangeFunc g ps asg body, t, ms, S, Kn, Kx => by
    rw [cc,evC]
    cases okOpd ng g with
    | false=>rfl
    | true=>exact rangeK_eq e hc _ _ _ _ _ _ _ _ _
  | .exit id,t,ms,S,Kn,Kx=>rfl
  | .ret,t,ms,S,Kn,Kx=>rfl
  | .goto _,t,ms,S,Kn,Kx=>rfl
  | .refuse _,t,ms,S,Kn,Kx=>rfl
end
end Go.Vx
end
