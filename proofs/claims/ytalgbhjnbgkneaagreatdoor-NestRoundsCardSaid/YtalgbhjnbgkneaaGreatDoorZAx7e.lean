/- Lemmas on the program and its library, part Ax7e. -/
import Derived.Laws.StructEq
import Derived.ChangeKeysEq
import Derived.Test.YtalgbhjnbgkneaaGreatDoorZAx7c
set_option linter.unusedVariables false
set_option linter.unusedSimpArgs false
section
namespace Go.Ax
open Go.RowKit (Below)
variable {P:Program} {G:World→Prop}
def eqV:Value→Value→Bool
  | .int _ a,.int _ b=>a == b
  | .string a,.string b=>a.toList == b.toList
  | .bool a,.bool b=>a == b
  | _,_=>false
def eqVs:List Value→List Value→Bool
  | [],[]=>true
  | v :: vs,u :: us=>eqV v u && eqVs vs us
  | _,_=>false
def kOk:TyK→Value→Bool
  | .int k,.int k' _=>sameK k k'
  | .string,.string _=>true
  | .bool,.bool _=>true
  | _,_=>false
def ksOk:List TyK→List Value→Bool
  | [],[]=>true
  | k :: ks, v :: vs => match kOk k v with
    | true=>ksOk ks vs
    | false=>false
  | _,_=>false
theorem ksOk_len:∀{ks:List TyK} {vs:List Value},ksOk ks vs=true→vs.length=ks.length
  | [],[],_=>rfl
  | [],_ :: _,h=>by cases h
  | _ :: _,[],h=>by cases h
  | k :: ks, v :: vs, h => by
    simp only [ksOk] at h
    split at h
    · simp [ksOk_len h]
    · cases h
theorem ksOk_app:∀{ks ks':List TyK} {vs:List Value},ksOk (ks++ks') vs=true→ksOk ks (vs.take ks.length)=true∧ksOk ks' (vs.drop ks.length)=true
  | [],_,_,h=>⟨rfl,h⟩
  | _ :: _,_,[],h=>by cases h
  | k :: ks, ks', v :: vs, h => by
    simp only [List.cons_append,ksOk] at h
    split at h
    · rename_i e
      obtain ⟨h1,h2⟩:=ksOk_app h
      exact ⟨by simp only [List.length_cons,List.take_succ_cons,ksOk,e];exact h1,by simpa using h2⟩
    · cases h
theorem eqVs_app:∀(n:Nat) (vs us:List Value),vs.length=us.length→eqVs vs us=(eqVs (vs.take n) (us.take n) && eqVs (vs.drop n) (us.drop n))
  | 0,vs,us,_=>by simp [eqVs]
  | n+1,[],[],_=>by simp [eqVs]
  | n+1,[],_ :: _,h=>by cases h
  | n+1,_ :: _,[],h=>by cases h
  | n + 1, v :: vs, u :: us, h => by
    simp only [List.take_succ_cons,List.drop_succ_cons,eqVs,Bool.and_assoc]
    rw [eqVs_app n vs us (by simpa using h)]
def mkV (P:Program) (t:TypeId) (vs:List Value):Value:=match ((P.underlying t).map (·.isRow)).getD false with
  | true=>.agg vs.toArray
  | false=>vs.getD 0 undef
theorem flatK_under {d:Nat} {t:TypeId} {ks:List TyK} (h:flatK P d t=some ks):P.underlying t≠none:=by
  cases d with
  | zero=>cases h
  | succ d =>
    intro e
    simp only [flatK,e] at h
    cases h
theorem run_part_mk {w:World} {t:TypeId} {cs:List Value} {off n:Nat} (hu:P.underlying t≠none) (hc:P.cellsOf t=n) (hn:0 < n) (hle:off+n≤cs.length):(part t cs.toArray off).run P w= .ok (mkV P t ((cs.drop off).take n)) w:=by
  cases hd:P.underlying t with
  | none=>exact absurd hd hu
  | some d =>
    simp only [part,Sem.run_bind,run_isAgg hd,Result.andThen_ok]
    cases hr:d.isRow with
    | true =>
      have hs:=sizeOf_run (P:=P) hc hn w
      simp only [if_true,Sem.run_bind,hs,Result.andThen_ok,Sem.run_pure,mkV,hd,Option.map_some,Option.getD_some,hr]
      congr 2
      apply Array.ext'
      simp [List.take_drop]
    | false =>
      have:off < cs.length:=by omega
      simp only [Bool.false_eq_true,if_false,List.getElem?_toArray,List.getElem?_eq_getElem this,Sem.run_pure,mkV,hd,Option.map_some,Option.getD_some,hr]
      congr 1
      rw [List.getD_eq_getElem?_getD,List.getElem?_take,if_pos hn,List.getElem?_drop]
      simp [this]
def EqOk (P:Program) (d:Nat) (t:TypeId) (ks:List TyK):Prop:=∀(w:World) (vs us:List Value),ksOk ks vs=true→ksOk ks us=true→(Op.equalIn d t (mkV P t vs) (mkV P t us)).run P w= .ok (eqVs vs us) w
theorem run_eqItems_flat {d:Nat} {e:TypeId} {ks:List TyK} (hE:EqOk P d e ks) (hu:P.underlying e≠none) (hc:ks.length=P.cellsOf e) (hn:0 < ks.length) (w:World):∀(n k:Nat) (vs us:List Value),
    ksOk (List.replicate n ks).flatten (vs.drop (k*ks.length))=true→ksOk (List.replicate n ks).flatten (us.drop (k*ks.length))=true→
    (Op.eqItems d e (P.cellsOf e) vs.toArray us.toArray (List.range' k n)).run P w= .ok (eqVs (vs.drop (k*ks.length)) (us.drop (k*ks.length))) w
  | 0, k, vs, us, h1, h2 => by
    have e1:vs.drop (k*ks.length)= []:=List.eq_nil_of_length_eq_zero (by simpa using ksOk_len h1)
    have e2:us.drop (k*ks.length)= []:=List.eq_nil_of_length_eq_zero (by simpa using ksOk_len h2)
    rw [e1,e2]
    simp [Op.eqItems,eqVs]
  | n + 1, k, vs, us, h1, h2 => by
    have l1:=ksOk_len h1
    have l2:=ksOk_len h2
    rw [List.replicate_succ,List.flatten_cons] at h1 h2
    rw [List.replicate_succ,List.flatten_cons,List.length_append] at l1 l2
    obtain ⟨a1,a2⟩:=ksOk_app h1
    obtain ⟨b1,b2⟩:=ksOk_app h2
    rw [List.length_drop] at l1 l2
    rw [List.range'_succ]
    simp only [Op.eqItems,Sem.run_bind]
    rw [run_part_mk hu rfl (by omega) (by rw [←hc];omega),Result.andThen_ok,run_part_mk hu rfl (by omega) (by rw [←hc];omega),Result.andThen_ok,←hc,hE w _ _ a1 b1,Result.andThen_ok]
    rw [eqVs_app ks.length (vs.drop (k*ks.length)) (us.drop (k*ks.length)) (by rw [List.length_drop,List.length_drop];omega)]
    cases h:eqVs ((vs.drop (k*ks.length)).take ks.length) ((us.drop (k*ks.length)).take ks.length) with
    | false=>simp
    | true =>
      have e:∀l:List Value,(l.drop (k*ks.length)).drop ks.length=l.drop ((k+1)*ks.length):=fun l=>by rw [List.drop_drop];congr 1;rw [Nat.add_mul];omega
      rw [e] at a2 b2
      have ih:=run_eqItems_flat hE hu hc hn w n (k+1) vs us a2 b2
      rw [←hc] at ih
      simp only [Bool.not_true,Bool.false_eq_true,if_false,Bool.true_and,e]
      exact ih
theorem run_eqFields_flat {d:Nat} {F:TypeId→Option (List TyK)} (hF:∀t ks,F t=some ks→EqOk P d t ks∧P.underlying t≠none) (w:World):∀(fs:List Field) (off:Nat) (ks:List TyK) (vs us:List Value),flatFs P F fs off=some ks→
    ksOk ks (vs.drop off)=true→ksOk ks (us.drop off)=true→(Op.eqFields d vs.toArray us.toArray fs).run P w= .ok (eqVs (vs.drop off) (us.drop off)) w
  | [], off, ks, vs, us, h, h1, h2 => by
    cases h
    have e1:vs.drop off= []:=List.eq_nil_of_length_eq_zero (by simpa using ksOk_len h1)
    have e2:us.drop off= []:=List.eq_nil_of_length_eq_zero (by simpa using ksOk_len h2)
    rw [e1,e2]
    simp [Op.eqFields,eqVs]
  | f :: r, off, ks, vs, us, h, h1, h2 => by
    simp only [flatFs] at h
    split at h
    · rename_i ks1 hk1
      split at h
      · rename_i hc
        split at h
        · rename_i l hl
          cases h
          simp only [Bool.and_eq_true,bne_iff_ne,ne_eq,beq_iff_eq] at hc
          obtain ⟨⟨⟨c1,c2⟩,c3⟩,c4⟩:=hc
          have c3:=Nat.le_of_ble_eq_true c3
          obtain ⟨hE,hu⟩:=hF _ _ hk1
          have l1:=ksOk_len h1
          have l2:=ksOk_len h2
          rw [List.length_append,List.length_drop] at l1 l2
          obtain ⟨a1,a2⟩:=ksOk_app h1
          obtain ⟨b1,b2⟩:=ksOk_app h2
          simp only [Op.eqFields,c1,ne_eq,not_false_eq_true,if_true,Sem.run_bind]
          rw [c2,run_part_mk hu rfl (by omega) (by rw [←c4];omega),Result.andThen_ok,run_part_mk hu rfl (by omega) (by rw [←c4];omega),Result.andThen_ok,←c4,hE w _ _ a1 b1,Result.andThen_ok]
          rw [eqVs_app ks1.length (vs.drop off) (us.drop off) (by rw [List.length_drop,List.length_drop];omega)]
          cases hq:eqVs ((vs.drop off).take ks1.length) ((us.drop off).take ks1.length) with
          | false=>simp
          | true =>
            rw [List.drop_drop] at a2 b2
            have ih:=run_eqFields_flat hF w r (off+ks1.length) l vs us hl a2 b2
            simp only [Bool.not_true,Bool.false_eq_true,if_false,Bool.true_and,List.drop_drop]
            exact ih
        · cases h
      · cases h
    · cases h
theorem eqOk_flat:∀(d dd:Nat) (t:TypeId) (ks:List TyK),flatK P d t=some ks→EqOk P (dd+d) t ks
  | 0,_,_,_,h=>by cases h
  | d + 1, dd, t, ks, h => by
    have hun:=flatK_under h
    intro w vs us h1 h2
    simp only [flatK] at h
    have one:∀{k:TyK} {vs:List Value},ksOk [k] vs=true→∃v,vs= [v]∧kOk k v=true:=by
      intro k vs h
      match vs,h with
      | [v], h =>
        simp only [ksOk] at h
        split at h
        · rename_i e;exact ⟨v,rfl,e⟩
        · cases h
      | v :: u :: vs, h =>
        simp only [ksOk] at h
        split at h <;> cases h
    split at h
    · rename_i k hu
      cases h
      obtain ⟨v,rfl,hv⟩:=one h1
      obtain ⟨u,rfl,hv'⟩:=one h2
      cases v <;> simp only [kOk,Bool.false_eq_true] at hv
      cases u <;> simp only [kOk,Bool.false_eq_true] at hv'
      have e1:=sameK_eq hv
      have e2:=sameK_eq hv'
      subst e1 e2
      simp only [mkV,hu,Option.map_some,TypeDesc.isRow,Option.getD_some,List.getD_cons_zero,eqVs,eqV,Bool.and_true]
      exact run_equalIn_int w (dd+d) t _ _ _ _ hu
    · rename_i hu
      cases h
      obtain ⟨v,rfl,hv⟩:=one h1
      obtain ⟨u,rfl,hv'⟩:=one h2
      cases v <;> simp only [kOk,Bool.false_eq_true] at hv
      cases u <;> simp only [kOk,Bool.false_eq_true] at hv'
      simp only [mkV,hu,Option.map_some,TypeDesc.isRow,Option.getD_some,List.getD_cons_zero,eqVs,eqV,Bool.and_true]
      exact run_equalIn_string w (dd+d) t _ _ hu
    · rename_i hu
      cases h
      obtain ⟨v,rfl,hv⟩:=one h1
      obtain ⟨u,rfl,hv'⟩:=one h2
      cases v <;> simp only [kOk,Bool.false_eq_true] at hv
      cases u <;> simp only [kOk,Bool.false_eq_true] at hv'
      simp only [mkV,hu,Option.map_some,TypeDesc.isRow,Option.getD_some,List.getD_cons_zero,eqVs,eqV,Bool.and_true]
      exact run_equalIn_bool' w (dd+d) t _ _ hu
    · rename_i n e hu
      split at h
      · rename_i ks' hk
        split at h
        · rename_i hc
          cases h
          simp only [Bool.and_eq_true,beq_iff_eq] at hc
          have c1:=Nat.le_of_ble_eq_true hc.1
          obtain ⟨i,hi,_⟩:=cellsOf_info (P:=P) (t:=e) (by omega)
          have hE:=eqOk_flat d dd e ks' hk
          have:=run_eqItems_flat hE (flatK_under hk) hc.2 c1 w n 0 vs us (by simpa using h1) (by simpa using h2)
          simp only [mkV,hu,Option.map_some,TypeDesc.isRow,Option.getD_some]
          rw [show dd+(d+1)=(dd+d)+1 from rfl,run_equalIn_array w (dd+d) vs.toArray us.toArray hu hi,List.range_eq_range']
          simpa using this
        · cases h
      · cases h
    · rename_i fs hu
      split at h
      · cases h
      · rename_i hs
        have hf:P.fieldsOf t=fs:=by simp [Program.fieldsOf,hu]
        have:=run_eqFields_flat (d:=dd+d) (F:=flatK P d) (fun t ks hk=>⟨eqOk_flat d dd t ks hk,flatK_under hk⟩) w fs.toList 0 ks vs us h (by simpa using h1) (by simpa using h2)
        simp only [mkV,hu,Option.map_some,TypeDesc.isRow,Option.getD_some]
        rw [show dd+(d+1)=(dd+d)+1 from rfl,run_equalIn_agg w (dd+d) t vs.toArray us.toArray (by rw [hf];exact hu) hs,hf]
        simpa using this
    · cases h
theorem tyI_flat {t:TypeId} {ti:TyI} (h:tyI P t=some ti) {ks:List TyK} (hf:ti.flat=some ks):P.eqGuardType P.depth t=false∧flatK P 8 t=some ks:=by
  unfold tyI at h
  split at h
  · cases h
    dsimp only at hf
    split at hf
    · cases hf
    · rename_i e;exact ⟨e,hf⟩
  · cases h
def valsOf:List Leaf→Option (List Value)
  | []=>some []
  | .v x :: r => match valsOf r with
    | some vs=>some (x :: vs)
    | none=>none
  | _ :: _=>none
theorem valsOf_R {E:Env} {w:World}:∀{ls:List Leaf} {vs cs:List Value},valsOf ls=some vs→LeavesR E w ls cs→cs=vs
  | [],vs,cs,h,hr=>by cases h;exact hr
  | l :: r, vs, cs, h, hr => by
    cases l with
    | v x =>
      simp only [valsOf] at h
      split at h
      · rename_i us hu
        cases h
        obtain ⟨xs,ys,rfl,⟨rfl,_⟩,h2⟩:=hr
        rw [valsOf_R hu h2];rfl
      · cases h
    | _=>cases h
theorem step_eqAgg {o:Oper} {op:BinOp} {T T':TypeId} {x y:Operand} (ho:o.op= .binOp op T x y T') {ev:Operand→AV} {xs ys:List Leaf} (hx:ev x= .agg xs) (hy:ev y= .agg ys) (H:Nat→Option Box)
    {ti:TyI} (ht:tyI P T=some ti) {ks:List TyK} (hf:ti.flat=some ks) (hag:ti.agg=true) {vs us:List Value} (hv:valsOf xs=some vs) (hu:valsOf ys=some us) (h1:ksOk ks vs=true) (h2:ksOk ks us=true) {r:Bool} (hr:op= .eql∧r=eqVs vs us∨op= .neq∧r= !eqVs vs us) :
    StepSound P G o ev H { val:=.one (.v (.bool r)) }:=by
  obtain ⟨hg,hfl⟩:=tyI_flat ht hf
  obtain ⟨i,d,hi,hd,_,_,hda,_⟩:=tyI_spec ht
  refine step_value fun E w ac _ _ hops _=>⟨.bool r,?_,rfl,rfl,rfl⟩
  have g1:=hops x (by rw [ho];simp [Op.operands])
  have g2:=hops y (by rw [ho];simp [Op.operands])
  rw [hx] at g1;rw [hy] at g2
  obtain ⟨cs,e1,l1⟩:=g1
  obtain ⟨ds,e2,l2⟩:=g2
  rw [valsOf_R hv l1] at e1
  rw [valsOf_R hu l2] at e2
  have hE:=eqOk_flat 8 9992 T ks hfl w vs us h1 h2
  have hrow:((P.underlying T).map (·.isRow)).getD false=true:=by rw [hd];simpa using hda.trans hag
  simp only [mkV,hrow] at hE
  unfold execOp;rw [ho];dsimp only
  rw [e1,e2]
  simp only [Sem.run_bind,run_eqGuard_agg w op T x y _ _ hg,Result.andThen_ok]
  rcases hr with ⟨rfl,rfl⟩|⟨rfl,rfl⟩
  · rw [run_eql_struct,hE];rfl
  · rw [run_neq_struct,hE];rfl
theorem step_indexAgg {o:Oper} {T:TypeId} {x y:Operand} (ho:o.op= .index T x y) {ev:Operand→AV} {kd:IntKind} {i:Int} {xs ls:List Leaf} (hy:ev y= .one (.v (.int kd i))) (hx:ev x= .agg xs) (H:Nat→Option Box) {ti te:TyI} (ht:tyI P T=some ti) {m e sz:Nat} (hk:ti.kind= .array m e sz)
    (hte:tyI P e=some te) (hsz:0 < sz) (hls:subL xs (i.toNat*sz) sz=some ls) {v:AV} (hv:mkAV te.agg ls=some v) (hp:0≤i∧i < m) (h1:te.agg=false→sz=1):StepSound P G o ev H { val:=v }:=by
  refine step_value fun E w ac _ _ hops _=>?_
  have g1:=hops x (by rw [ho];simp [Op.operands])
  have g2:=hops y (by rw [ho];simp [Op.operands])
  rw [hx] at g1;rw [hy] at g2
  obtain ⟨_,g2,_⟩:=g2
  simp only [List.cons.injEq,and_true] at g2
  obtain ⟨cs,e1,l1⟩:=g1
  obtain ⟨hu,hc⟩:=tyI_array ht hk
  obtain ⟨ie,de,hie,hde,_,_,hda,_⟩:=tyI_spec hte
  have hsub:=subL_R l1 hls
  rcases hsub with ⟨hsub,hle⟩|⟨h0,_⟩
  · obtain ⟨u,hr,hRV⟩:=run_part (P:=P) (w:=w) (t:=e) (cs:=cs) (off:=i.toNat*sz) (r:=te.agg) (by rw [hde];simpa using hda) (by omega) (by rw [hde];simp) (by rw [hc];exact hsub) (by rw [hc];exact hle) hv (fun h=>by rw [hc];exact h1 h)
    refine ⟨u,?_,hRV⟩
    have hso:=sizeOf_run (P:=P) hc hsz w
    unfold execOp;rw [ho];dsimp only
    rw [e1,g2]
    simp only [Instr.index,asIntOf,Sem.run_bind,Sem.run_pure,Result.andThen_ok,run_underlying hu,hp.1,hp.2,and_self,if_true,hso,hr]
  · omega
def partsL (xs:List Leaf) (sz:Nat):Nat→Option (List (List Leaf))
  | 0=>some []
  | m + 1 => match takeL xs sz, dropL xs sz with
    | some a, some b => match partsL b sz m with
      | some r=>some (a :: r)
      | none=>none
    | _,_=>none
theorem partsL_R {E:Env} {w:World} {sz:Nat}:∀{m:Nat} {xs:List Leaf} {lss:List (List Leaf)} {cs:List Value},partsL xs sz m=some lss→LeavesR E w xs cs→
    lss.length=m∧∀i,i < m→LeavesR E w (lss.getD i []) ((cs.drop (i*sz)).take sz)∧i*sz+sz≤cs.length
  | 0,_,_,_,h,_=>by cases h;exact ⟨rfl,fun i hi=>by omega⟩
  | m + 1, xs, lss, cs, h, hr => by
    simp only [partsL] at h
    split at h
    · rename_i a b ha hb
      split at h
      · rename_i r hr'
        cases h
        obtain ⟨t1,t2⟩:=takeL_R hr ha
        have d1:=dropL_R hr hb
        obtain ⟨e1,e2⟩:=partsL_R hr' d1
        refine ⟨by simp [e1],fun i hi=>?_⟩
        cases i with
        | zero=>exact ⟨by simpa using t1,by omega⟩
        | succ i =>
          obtain ⟨e3,e4⟩:=e2 i (by omega)
          rw [List.length_drop] at e4
          refine ⟨?_,by rw [Nat.add_mul];omega⟩
          have:(i+1)*sz=sz+i*sz:=by rw [Nat.add_mul];omega
          rw [this,←List.drop_drop]
          simpa using e3
      · cases h
    · cases h
theorem step_sliceArr {o:Oper} {T:TypeId} {x:Operand} (ho:o.op= .slice T x none none none) {ev:Operand→AV} {xs:List Leaf} (hx:ev x= .one (.pp xs)) (H:Nat→Option Box) {ti:TyI} (ht:tyI P T=some ti) {m e sz:Nat} (hk:ti.kind= .array m e sz) (hsz:0 < sz)
    {lss:List (List Leaf)} (hl:partsL xs sz m=some lss) (hss:lss.all (fun ls=>sizes ls == sz)=true):StepSound P G o ev H { val:=.one (.row sz m fun i=>lss.getD i []) }:=by
  refine step_value fun E w ac _ _ hops _=>?_
  have g1:=hops x (by rw [ho];simp [Op.operands])
  rw [hx] at g1
  obtain ⟨_,b,off,es,g2,g3,g4,g5⟩:=g1
  simp only [List.cons.injEq,and_true] at g2
  obtain ⟨hu,hc⟩:=tyI_array ht hk
  obtain ⟨p1,p2⟩:=partsL_R hl g4
  have hal:P.arrayLen T=m:=by simp [Program.arrayLen,hu]
  refine ⟨.slice (some ⟨b,off,none⟩) m m,?_,rfl,.inr ⟨b,off,m,rfl,g3,Nat.le_refl _,fun i hi=>?_⟩⟩
  · unfold execOp;rw [ho];dsimp only
    rw [g2]
    have:=run_sliceAt_array_all (P:=P) w T ⟨b,off,none⟩ (by rw [hu];simp [Program.arrayLen,Program.elem,hu])
    have hel:P.elem T=e:=by simp [Program.elem,hu]
    rw [hal] at this
    simp only [Option.map_none,Sem.run_bind,this,hel,sizeOf_run hc hsz,Result.andThen_ok,Sem.run_pure,slicedAt,Nat.zero_mul,Addr.add_mid,Nat.add_zero,ite_self,Nat.sub_zero]
  · obtain ⟨q1,q2⟩:=p2 i hi
    refine ⟨_,?_,q1,rangeAt_sub g5 _ _⟩
    have hi':i < lss.length:=by omega
    have hg:lss.getD i []=lss[i]:=by simp [List.getD_eq_getElem?_getD,hi']
    show sizes (lss.getD i [])=sz
    rw [hg]
    simp only [List.all_eq_true] at hss
    simpa using hss _ (List.getElem_mem hi')
-- axioms of step_eqAgg
-- axioms of step_indexAgg
-- axioms of step_sliceArr
end Go.Ax
end
