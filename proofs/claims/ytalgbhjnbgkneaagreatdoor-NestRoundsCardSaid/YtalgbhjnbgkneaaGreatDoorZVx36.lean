/- Lemmas on the program and its library, part Vx36. -/
import Derived.Test.YtalgbhjnbgkneaaGreatDoorZVx33
set_option linter.unusedVariables false
set_option linter.unusedSimpArgs false
section
namespace Go.Vx
open Go.Ax
noncomputable def forceL (xs:List VV):(List VV→Bool)→Bool:=List.rec (motive:=fun _=>(List VV→Bool)→Bool) (fun K=>K []) (fun x _ ih K=>fv x fun x=>ih fun l=>K (x :: l)) xs
theorem forceL_eq:∀(xs:List VV) (K:List VV→Bool),forceL xs K=K xs
  | [],_=>rfl
  | x :: r, K => by
    show (fv x fun x=>forceL r fun l=>K (x :: l))=_
    rw [fv_eq,forceL_eq r]
noncomputable def argsK (xs:List VV):Nat→Tr VV→(Tr VV→Bool)→Bool:=List.rec (motive:=fun _=>Nat→Tr VV→(Tr VV→Bool)→Bool) (fun _ t K=>K t) (fun x _ ih i t K=>ifK (Tr.fits i) (setK i t (some x) fun t=>ih (i+1) t K) false) xs
theorem argsK_eq:∀(xs:List VV) (i:Nat) (t:Tr VV) (K:Tr VV→Bool),argsK xs i t K=match argsT xs i t with|some t=>K t|none=>false
  | [],_,_,_=>rfl
  | x :: r, i, t, K => by
    show ifK (Tr.fits i) (setK i t (some x) fun t=>argsK r (i+1) t K) false=_
    rw [setK_eq,argsK_eq r,argsT]
    cases Tr.fits i <;> rfl
section
variable (tt:TypeId→Option TyI) (ng:Nat)
abbrev ResF:=Tr VV→Sx→(List VV→Bool)→Bool
def cellRes (v:VV) (ti:Option TyI) (S:Sx):Option VV:=match v,ti with
  | .p b off, some ti => match loadC S.f b off ti.size with
    | some xs=>VV.mk ti.agg xs
    | none=>none
  | _,_=>none
noncomputable def resK:List ResultVar→Bx ResF
  | []=>⟨fun _ _ K=>K []⟩
  | .tmp n :: r=>Bx.rec (motive:=fun _=>Bx ResF) (fun g=>Bx.rec (motive:=fun _=>Bx ResF) (fun f=>⟨fun t S K=>f t S fun l=>Option.rec (motive:=fun _=>Bool) (K (.u :: l)) (fun v=>K (v :: l)) (g t)⟩) (resK r)) (pget n)
  | .cell p T :: r=>Bx.rec (motive:=fun _=>Bx ResF) (fun f=>⟨fun t S K=>f t S fun l=>match cellRes (tvf t p) (tt T) S with|some y=>K (y :: l)|none=>false⟩) (resK r)
theorem resK_eq:∀(rs:List ResultVar) (t:Tr VV) (S:Sx) (K:List VV→Bool),(resK tt rs).val t S K=match resV tt t S.f rs with|some l=>K l|none=>false
  | [],_,_,_=>rfl
  | .tmp n :: r, t, S, K => by
    rw [resK,resV]
    show ((resK tt r).val t S fun l=>Option.rec (motive:=fun _=>Bool) (K (.u :: l)) (fun v=>K (v :: l)) ((pget n).val t))=_
    rw [resK_eq r,pget_eq]
    cases resV tt t S.f r with
    | none=>rfl
    | some l =>
      show Option.rec (motive:=fun _=>Bool) (K (.u :: l)) (fun v=>K (v :: l)) (Tr.get t n)=K (tvf t n :: l)
      unfold tvf
      cases Tr.get t n <;> rfl
  | .cell p T :: r, t, S, K => by
    rw [resK,resV]
    show ((resK tt r).val t S fun l=>match cellRes (tvf t p) (tt T) S with|some y=>K (y :: l)|none=>false)=_
    rw [resK_eq r]
    unfold cellRes
    cases tvf t p with
    | p b off =>
      cases tt T with
      | none=>dsimp only;cases resV tt t S.f r <;> rfl
      | some ti =>
        dsimp only
        cases loadC S.f b off ti.size with
        | none=>dsimp only;cases resV tt t S.f r <;> rfl
        | some xs =>
          dsimp only
          cases VV.mk ti.agg xs with
          | none=>dsimp only;cases resV tt t S.f r <;> rfl
          | some y=>dsimp only;cases resV tt t S.f r <;> rfl
    | _=>dsimp only;cases resV tt t S.f r <;> rfl
variable (fns:FuncId→Option Func) (ext:FuncId→List VV→Option VV) (fuel:Nat)
abbrev FunF:=CallK→List VV→Nat→Sx→(VV→Sx→Bool)→Bool
noncomputable def endK (res:ResF) (lim:Nat) (t:Tr VV) (ms:List Nat) (S:Sx) (K:VV→Sx→Bool):Bool:=match dropM ng lim ms S with
  | some S2=>res t S2 fun l=>fv (oneV l) fun v=>K v S2
  | none=>false
noncomputable def enK (res:ResF) (lim:Nat) (K:VV→Sx→Bool) (ex:Ex):Tr VV→List Nat→Sx→Bool:=
  Ex.rec (motive:=fun _=>Tr VV→List Nat→Sx→Bool) (fun t ms S=>endK ng res lim t ms S K) (fun t ms S=>endK ng res lim t ms S K) (fun _ _ _ _=>false) ex
noncomputable def funB (f:CF) (res:ResF) (n:Nat):FunF:=fun call xs lim S K=>argsK xs 0 Tr.lf fun t=>ifK (Nat.ble xs.length n) (f ⟨lim,none,call⟩ t [] S (fun t ms S=>endK ng res lim t ms S K) (enK ng res lim K)) false
noncomputable def fcomp (g:FuncId):Option (Bx FunF):=match fns g with
  | some fn => match fn.body with
    | some c=>some (Bx.rec (motive:=fun _=>Bx FunF) (fun f=>Bx.rec (motive:=fun _=>Bx FunF) (fun res=>⟨funB ng f res fn.ntmps⟩) (resK tt fn.results.toList)) (cc tt ng (isFn fns) fuel fn.ntmps c))
    | none=>some ⟨fun _ xs _ S K=>match ext g xs with|some v=>K v S|none=>false⟩
  | none=>none
noncomputable def funK (call:CallK) (g:FuncId) (xs:List VV) (lim:Nat) (S:Sx) (K:VV→Sx→Bool):Bool:=Option.rec (motive:=fun _=>Bool) false (fun b=>Bx.rec (motive:=fun _=>Bool) (fun f=>f call xs lim S K) b) (fcomp tt ng fns ext fuel g)
noncomputable def rnK (b:Nat) (K:VV→Sx→Bool) (ex:Ex) (S3:Sx):Bool:=match S3.f b with
  | some (.loop _ _ t3 N3 ps3 asg3 body3)=>setK b S3.h (some (.loop (stOf ex) (jumpOf ex) t3 N3 ps3 asg3 body3)) fun h=>K (.s (.bool (isNorm ex))) ⟨h,S3.nb⟩
  | _=>false
noncomputable def rmK (call:CallK) (b:Nat) (lim N0:Nat) (body:Code) (t:Tr VV) (ms:List Nat) (S1:Sx) (K:VV→Sx→Bool):Bool:=match S1.f b with
  | some (.loop .ready pend1 t1' N1 ps1 asg1 body1)=>setK b S1.h (some (.loop .busy pend1 t1' N1 ps1 asg1 body1)) fun h=>Bx.rec (motive:=fun _=>Bool) (fun f=>f ⟨lim,some b,call⟩ t ms ⟨h,S1.nb⟩ (fun _ _ S3=>rnK b K .norm S3) (fun ex _ _ S3=>rnK b K ex S3)) (cc tt ng (isFn fns) fuel N0 body)
  | _=>false
noncomputable def roundK (call:CallK) (b:Nat) (xs:List VV) (lim:Nat) (S:Sx) (K:VV→Sx→Bool):Bool:=match S.f b with
  | some (.loop .ready _ t0 N0 ps asg body) => match putPs N0 ps.toList xs t0, Tr.fits b && Nat.ble ng b && Nat.ble lim b && Nat.ble (b + 1) S.nb with
    | some t1,true=>Bx.rec (motive:=fun _=>Bool) (fun f=>f ⟨lim,some b,call⟩ t1 [] S (fun t ms S1=>rmK tt ng fns fuel call b lim N0 body t ms S1 K) (fun _ _ _ _=>false)) (cc tt ng (isFn fns) fuel N0 asg)
    | _,_=>false
  | _=>false
noncomputable def kCall (k:Nat):CallK:=Nat.rec (motive:=fun _=>CallK) (fun _ _ _ _ _=>false) (fun _ ih tg xs lim S K=>forceL xs fun xs=>Tg.rec (motive:=fun _=>Bool) (fun g=>funK tt ng fns ext fuel ih g xs lim S K) (fun b=>roundK tt ng fns fuel ih b xs lim S K) tg) k
end
section
variable {tt:TypeId→Option TyI} {ng:Nat} {fns:FuncId→Option Func} {ext:FuncId→List VV→Option VV} {fuel:Nat} {call:CallK} {cF:CallF}
theorem funB_eq (hc:CallEq call cF) (fn:Func) (c:Code) (xs:List VV) (lim:Nat) (S:Sx) (K:VV→Sx→Bool):funB ng (cc tt ng (isFn fns) fuel fn.ntmps c).val (resK tt fn.results.toList).val fn.ntmps call xs lim S K=thenV (evFun tt ng fns fuel cF fn c xs lim S) K:=by
  have he:∀(s:Fs),endK ng (resK tt fn.results.toList).val lim s.t s.ms s.S K=thenV (match dropM ng lim s.ms s.S with
      | some S2 => match resV tt s.t S2.f fn.results.toList with
        | some l=>some (oneV l,S2)
        | none=>none
      | none=>none) K:=by
    intro s
    unfold endK
    cases dropM ng lim s.ms s.S with
    | none=>rfl
    | some S2 =>
      dsimp only
      rw [resK_eq]
      cases resV tt s.t S2.f fn.results.toList with
      | none=>rfl
      | some l=>exact fv_eq _ _
  unfold funB evFun
  rw [argsK_eq]
  cases argsT xs 0 Tr.lf with
  | none=>rfl
  | some t0 =>
    dsimp only
    cases Nat.ble xs.length fn.ntmps with
    | false=>rfl
    | true =>
      show (cc tt ng (isFn fns) fuel fn.ntmps c).val ⟨lim,none,call⟩ t0 [] S _ _=_
      rw [cc_eq (cF:=cF) ⟨lim,none,call⟩ hc]
      dsimp only
      cases evC tt ng (isFn fns) cF lim fn.ntmps none fuel c ⟨t0,[],S⟩ with
      | none=>rfl
      | some x =>
        obtain ⟨ex,s⟩:=x
        cases ex with
        | exit i=>rfl
        | norm=>exact he s
        | ret=>exact he s
theorem funK_eq (hc:CallEq call cF) (g:FuncId) (xs:List VV) (lim:Nat) (S:Sx) (K:VV→Sx→Bool):funK tt ng fns ext fuel call g xs lim S K=thenV (match fns g with
      | some fn => match fn.body with
        | some c=>evFun tt ng fns fuel cF fn c xs lim S
        | none => match ext g xs with
          | some v=>some (v,S)
          | none=>none
      | none=>none) K:=by
  unfold funK fcomp
  cases fns g with
  | none=>rfl
  | some fn =>
    dsimp only
    cases fn.body with
    | none =>
      dsimp only
      cases ext g xs <;> rfl
    | some c=>exact funB_eq hc fn c xs lim S K
theorem rnK_eq (b:Nat) (K:VV→Sx→Bool) (ex:Ex) (S3:Sx):rnK b K ex S3=thenV (match S3.f b with
    | some (.loop _ _ t3 N3 ps3 asg3 body3)=>some (.s (.bool (isNorm ex)),⟨S3.h.set b (some (.loop (stOf ex) (jumpOf ex) t3 N3 ps3 asg3 body3)),S3.nb⟩)
    | _=>none) K:=by
  unfold rnK
  cases S3.f b with
  | none=>rfl
  | some x =>
    cases x with
    | loop st pend t3 N3 ps3 asg3 body3=>dsimp only;rw [setK_eq];rfl
    | _=>rfl
theorem roundK_eq (hc:CallEq call cF) (b:Nat) (xs:List VV) (lim:Nat) (S:Sx) (K:VV→Sx→Bool):roundK tt ng fns fuel call b xs lim S K=thenV (evRound tt ng fns fuel cF b xs lim S) K:=by
  unfold roundK evRound
  cases S.f b with
  | none=>rfl
  | some x =>
    cases x with
    | loop st pend t0 N0 ps asg body =>
      cases st with
      | ready =>
        dsimp only
        cases putPs N0 ps.toList xs t0 with
        | none=>rfl
        | some t1 =>
          cases (Tr.fits b && Nat.ble ng b && Nat.ble lim b && Nat.ble (b+1) S.nb) with
          | false=>rfl
          | true =>
            show (cc tt ng (isFn fns) fuel N0 asg).val ⟨lim,some b,call⟩ t1 [] S _ _=_
            rw [cc_eq (cF:=cF) ⟨lim,some b,call⟩ hc]
            dsimp only
            cases evC tt ng (isFn fns) cF lim N0 (some b) fuel asg ⟨t1,[],S⟩ with
            | none=>rfl
            | some x =>
              obtain ⟨ex,s1⟩:=x
              cases ex with
              | norm =>
                show rmK tt ng fns fuel call b lim N0 body s1.t s1.ms s1.S K=_
                unfold rmK
                dsimp only
                cases s1.S.f b with
                | none=>rfl
                | some y =>
                  cases y with
                  | loop st1 pend1 t1' N1 ps1 asg1 body1 =>
                    cases st1 with
                    | ready =>
                      dsimp only
                      rw [setK_eq]
                      show (cc tt ng (isFn fns) fuel N0 body).val ⟨lim,some b,call⟩ s1.t s1.ms _ _ _=_
                      rw [cc_eq (cF:=cF) ⟨lim,some b,call⟩ hc]
                      dsimp only
                      cases evC tt ng (isFn fns) cF lim N0 (some b) fuel body ⟨s1.t,s1.ms,⟨s1.S.h.set b (some (.loop .busy pend1 t1' N1 ps1 asg1 body1)),s1.S.nb⟩⟩ with
                      | none=>rfl
                      | some z =>
                        obtain ⟨ex3,s3⟩:=z
                        have:finE (some (ex3,s3)) (fun _ _ S3=>rnK b K .norm S3) (fun ex _ _ S3=>rnK b K ex S3)=rnK b K ex3 s3.S:=by cases ex3 <;> rfl
                        rw [this]
                        exact rnK_eq _ _ _ _
                    | _=>rfl
                  | _=>rfl
              | _=>rfl
      | _=>rfl
    | _=>rfl
theorem kCall_eq:∀k,CallEq (kCall tt ng fns ext fuel k) (evCall tt ng fns ext fuel k)
  | 0=>fun _ _ _ _ _=>rfl
  | k + 1 => by
    intro tg xs lim S K
    have ih:=kCall_eq k
    show (forceL xs fun xs=>Tg.rec (motive:=fun _=>Bool) (fun g=>funK tt ng fns ext fuel (kCall tt ng fns ext fuel k) g xs lim S K) (fun b=>roundK tt ng fns fuel (kCall tt ng fns ext fuel k) b xs lim S K) tg)=_
    rw [forceL_eq,evCall]
    cases tg with
    | f g=>exact funK_eq ih g xs lim S K
    | y b=>exact roundK_eq ih b xs lim S K
def isYes (v:VV):Bool:=match v with
  | .s (.bool true)=>true
  | _=>false
noncomputable def kYes (tt:TypeId→Option TyI) (ng:Nat) (fns:FuncId→Option Func) (ext:FuncId→List VV→Option VV) (fuel k:Nat) (f:FuncId):Bool:=kCall tt ng fns ext fuel k (.f f) [] ng ⟨Tr.lf,ng⟩ fun v _=>isYes v
theorem kYes_says {k:Nat} {f:FuncId} (h:kYes tt ng fns ext fuel k f=true):saysYes (evCall tt ng fns ext fuel k (.f f) [] ng ⟨.lf,ng⟩)=true:=by
  unfold kYes at h
  rw [kCall_eq] at h
  unfold thenV at h
  split at h
  · rename_i v S e
    rw [e]
    unfold isYes at h
    dsimp only at h
    split at h
    · rfl
    · cases h
  · cases h
-- axioms of kYes_says
end
end Go.Vx
end
