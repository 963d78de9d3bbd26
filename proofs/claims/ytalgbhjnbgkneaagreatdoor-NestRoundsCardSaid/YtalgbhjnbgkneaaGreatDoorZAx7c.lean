/- Lemmas on the program and its library, part Ax7c. -/
import Derived.Test.YtalgbhjnbgkneaaGreatDoorZAx7
set_option linter.unusedVariables false
set_option linter.unusedSimpArgs false
section
namespace Go.Ax
open Go.RowKit (Below)
variable {P:Program} {G:World→Prop}
theorem sizeOf_run {t:TypeId} {n:Nat} (h:P.cellsOf t=n) (hn:0 < n) (w:World):(sizeOf t).run P w= .ok n w:=by
  obtain ⟨i,h1,h2⟩:=cellsOf_info (P:=P) (t:=t) (by omega)
  simp [sizeOf,typeInfo,h1,h2,h]
theorem run_indexSlice {T e sz:Nat} {ti:TyI} (ht:tyI P T=some ti) (hk:ti.kind= .slice e sz) (hsz:0 < sz) {k off n c:Nat} {kd:IntKind} {i:Int} (h0:0≤i) (h1:i < n) (w:World) :
    (Instr.indexAt T (.slice (some ⟨k,off,none⟩) n c) (.int kd i)).run P w= .ok (.pointer (some ⟨k,off+i.toNat*sz,none⟩)) w:=by
  obtain ⟨hu,hc⟩:=tyI_slice ht hk
  simp only [Instr.indexAt,asIntOf,Sem.run_bind,Sem.run_pure,Result.andThen_ok,run_underlying hu,h0,h1,and_self,if_true,sizeOf_run hc hsz,Addr.add_mid]
theorem run_indexArray {T e sz m:Nat} {ti:TyI} (ht:tyI P T=some ti) (hk:ti.kind= .array m e sz) (hsz:0 < sz) {k off:Nat} {kd:IntKind} {i:Int} (h0:0≤i) (h1:i < m) (w:World) :
    (Instr.indexAt T (.pointer (some ⟨k,off,none⟩)) (.int kd i)).run P w= .ok (.pointer (some ⟨k,off+i.toNat*sz,none⟩)) w:=by
  obtain ⟨hu,hc⟩:=tyI_array ht hk
  simp only [Instr.indexAt,asIntOf,Sem.run_bind,Sem.run_pure,Result.andThen_ok,run_underlying hu,Instr.sureAddr]
  simp [h0,h1,sizeOf_run hc hsz,Addr.add_mid]
def idxA (sz:Nat) (i:Int):AV→Option (Prop×AV)
  | .one (.own b s j n _)=>some (s=sz∧0≤i∧i < n,.one (.ptr b s (j+i.toNat) 0))
  | .one (.gr b s n _)=>some (s=sz∧0≤i∧i < n,.one (.ptr b s i.toNat 0))
  | .one (.ints k l)=>some (sz=1∧0≤i∧i < l.length,.one (.pp [.v (.int k (l.getD i.toNat 0))]))
  | .one (.nn k l)=>some (sz=1∧0≤i∧i < l.length,.one (.pp [.v (.int k (l.getD i.toNat 0))]))
  | .one (.row s n g)=>some (s=sz∧0≤i∧i < n,.one (.pp (g i.toNat)))
  | _=>none
theorem range_one {w:World} {b o:Nat} {l:List Value} (h:w.rangeAt b o l) {i:Nat} {v:Value} (hi:l[i]?=some v):w.rangeAt b (o+i*1) [v]:=by
  intro j u hj
  match j,hj with
  | 0,hj=>simp at hj;subst hj;simpa using h i _ hi
  | j+1,hj=>simp at hj
theorem step_idx {o:Oper} {T:TypeId} {x y:Operand} (ho:o.op= .indexAddr T x y) {ev:Operand→AV} {kd:IntKind} {i:Int} (hy:ev y= .one (.v (.int kd i))) (H:Nat→Option Box) {ti:TyI} (ht:tyI P T=some ti) {e sz:Nat} (hk:ti.kind= .slice e sz) (hsz:0 < sz)
    {pre:Prop} {r:AV} (hx:idxA sz i (ev x)=some (pre,r)) (hp:pre):StepSound P G o ev H { val:=r }:=by
  refine step_value fun E w ac _ _ hops _=>?_
  have h1:=hops x (by rw [ho];simp [Op.operands])
  have h2:=hops y (by rw [ho];simp [Op.operands])
  rw [hy] at h2
  obtain ⟨_,h2,_⟩:=h2
  simp only [List.cons.injEq,and_true] at h2
  have key:∀{k off n c:Nat},ac.eval x= .slice (some ⟨k,off,none⟩) n c→0≤i→i < n→(execOp ac.eval o).run P w= .ok (.value (.pointer (some ⟨k,off+i.toNat*sz,none⟩))) w:=by
    intro k off n c h3 h4 h5
    unfold execOp;rw [ho];dsimp only
    rw [h3,h2]
    simp only [Sem.run_bind,run_indexSlice ht hk hsz h4 h5,Result.andThen_ok,Sem.run_pure]
  unfold idxA at hx
  split at hx
  · rename_i b s j n c hev
    cases hx
    obtain ⟨e1,hp⟩:=hp
    rw [hev] at h1
    obtain ⟨_,k,h3,h4⟩:=h1
    simp only [List.cons.injEq,and_true] at h4
    refine ⟨_,key h4 hp.1 hp.2,rfl,k,h3,?_⟩
    subst e1
    rw [Nat.add_mul];rfl
  · rename_i b s n c hev
    cases hx
    obtain ⟨e1,hp⟩:=hp
    rw [hev] at h1
    obtain ⟨_,h1⟩:=h1
    rcases h1 with ⟨rfl,_⟩|⟨k,h3,h4⟩
    · have:=hp.2;omega
    · simp only [List.cons.injEq,and_true] at h4
      refine ⟨_,key h4 hp.1 hp.2,rfl,k,h3,?_⟩
      subst e1
      rw [Nat.zero_add];rfl
  · rename_i k l hev
    cases hx
    obtain ⟨e1,hp⟩:=hp
    rw [hev] at h1
    obtain ⟨_,v,h3,h4⟩:=h1
    simp only [List.cons.injEq,and_true] at h3
    rcases h4 with ⟨rfl,h4⟩|⟨b,off,c,h4,h5,h6,h7⟩
    · have:=hp.2;simp at this;omega
    · refine ⟨_,key (h3.trans h4) hp.1 hp.2,rfl,b,_,[.int k (l.getD i.toNat 0)],rfl,h5,⟨[_],[],rfl,⟨rfl,rfl⟩,rfl⟩,?_⟩
      subst e1
      refine range_one h7 ?_
      have:i.toNat < l.length:=by omega
      simp [List.getD_eq_getElem?_getD,this]
  · rename_i k l hev
    cases hx
    obtain ⟨e1,hp⟩:=hp
    rw [hev] at h1
    obtain ⟨_,v,h3,b,off,c,h4,h5,h6,h7⟩:=h1
    simp only [List.cons.injEq,and_true] at h3
    refine ⟨_,key (h3.trans h4) hp.1 hp.2,rfl,b,_,[.int k (l.getD i.toNat 0)],rfl,h5,⟨[_],[],rfl,⟨rfl,rfl⟩,rfl⟩,?_⟩
    subst e1
    refine range_one h7 ?_
    have:i.toNat < l.length:=by omega
    simp [List.getD_eq_getElem?_getD,this]
  · rename_i s n g hev
    cases hx
    obtain ⟨e1,hp⟩:=hp
    rw [hev] at h1
    obtain ⟨_,h1⟩:=h1
    rcases h1 with ⟨rfl,_⟩|⟨b,off,c,h3,h4,h5,h6⟩
    · have:=hp.2;omega
    · simp only [List.cons.injEq,and_true] at h3
      obtain ⟨es,g1,g2,g3⟩:=h6 i.toNat (by omega)
      subst e1
      exact ⟨_,key h3 hp.1 hp.2,rfl,b,_,es,rfl,h4,g2,g3⟩
  · cases hx
theorem step_idxArr {o:Oper} {T:TypeId} {x y:Operand} (ho:o.op= .indexAddr T x y) {ev:Operand→AV} {kd:IntKind} {i:Int} (hy:ev y= .one (.v (.int kd i))) (H:Nat→Option Box) {ti:TyI} (ht:tyI P T=some ti) {m e sz:Nat} (hk:ti.kind= .array m e sz) (hsz:0 < sz)
    {b s j off:Nat} (hx:ev x= .one (.ptr b s j off)) (hp:0≤i∧i < m):StepSound P G o ev H { val:=.one (.ptr b s j (off+i.toNat*sz)) }:=by
  refine step_value fun E w ac _ _ hops _=>?_
  have h1:=hops x (by rw [ho];simp [Op.operands])
  have h2:=hops y (by rw [ho];simp [Op.operands])
  rw [hy] at h2;rw [hx] at h1
  obtain ⟨_,h2,_⟩:=h2
  obtain ⟨_,k,h3,h4⟩:=h1
  simp only [List.cons.injEq,and_true] at h2 h4
  refine ⟨_,?_,rfl,k,h3,rfl⟩
  unfold execOp;rw [ho];dsimp only
  rw [h4,h2]
  simp only [Sem.run_bind,run_indexArray ht hk hsz hp.1 hp.2,Result.andThen_ok,Sem.run_pure,Nat.add_assoc]
theorem step_idxArr_pp {o:Oper} {T:TypeId} {x y:Operand} (ho:o.op= .indexAddr T x y) {ev:Operand→AV} {kd:IntKind} {i:Int} (hy:ev y= .one (.v (.int kd i))) (H:Nat→Option Box) {ti:TyI} (ht:tyI P T=some ti) {m e sz:Nat} (hk:ti.kind= .array m e sz) (hsz:0 < sz)
    {xs ys:List Leaf} (hx:ev x= .one (.pp xs)) (hd:dropL xs (i.toNat*sz)=some ys) (hp:0≤i∧i < m):StepSound P G o ev H { val:=.one (.pp ys) }:=by
  refine step_value fun E w ac _ _ hops _=>?_
  have h1:=hops x (by rw [ho];simp [Op.operands])
  have h2:=hops y (by rw [ho];simp [Op.operands])
  rw [hy] at h2;rw [hx] at h1
  obtain ⟨_,h2,_⟩:=h2
  obtain ⟨_,k,off,es,h3,h4,h5,h6⟩:=h1
  simp only [List.cons.injEq,and_true] at h2 h3
  refine ⟨_,?_,rfl,k,off+i.toNat*sz,es.drop (i.toNat*sz),rfl,h4,dropL_R h5 hd,fun j v hv=>?_⟩
  · unfold execOp;rw [ho];dsimp only
    rw [h3,h2]
    simp only [Sem.run_bind,run_indexArray ht hk hsz hp.1 hp.2,Result.andThen_ok,Sem.run_pure]
  · rw [List.getElem?_drop] at hv
    have:=h6 _ _ hv
    rwa [←Nat.add_assoc] at this
/-! ### A byte of a string -/
theorem step_indexStr {o:Oper} {T:TypeId} {x y:Operand} (ho:o.op= .index T x y) {ev:Operand→AV} {kd:IntKind} {i:Int} {s:ByteArray} (hy:ev y= .one (.v (.int kd i))) (hx:ev x= .one (.v (.string s))) (H:Nat→Option Box) {ti:TyI} (ht:tyI P T=some ti) (hk:ti.kind= .string)
    (hp:0≤i∧i < s.size):StepSound P G o ev H { val:=.one (.v (.int .u8 (s.data.getD i.toNat 0).toNat)) }:=by
  refine step_value fun E w ac _ _ hops _=>⟨.int .u8 (s.data.getD i.toNat 0).toNat,?_,rfl,rfl,rfl⟩
  have h1:=hops x (by rw [ho];simp [Op.operands])
  have h2:=hops y (by rw [ho];simp [Op.operands])
  rw [hy] at h2;rw [hx] at h1
  obtain ⟨_,h2,_⟩:=h2
  obtain ⟨_,h1,_⟩:=h1
  simp only [List.cons.injEq,and_true] at h1 h2
  unfold execOp;rw [ho];dsimp only
  rw [h1,h2]
  have hlt:i.toNat < s.size:=by omega
  have hlt':i.toNat < s.data.size:=hlt
  have hg:s[i.toNat]?=some (s.data.getD i.toNat 0):=by
    rw [getElem?_pos s i.toNat hlt]
    simp only [Array.getD_eq_getD_getElem?,Array.getElem?_eq_getElem hlt',Option.getD_some]
    rfl
  simp [Instr.index,asIntOf,run_underlying (tyI_string ht hk),hp.1,hg]
/-! ### Strings cut -/
def optInt (ev:Operand→AV):Option Operand→Option (Option Int)
  | none=>some none
  | some x => match ev x with
    | .one (.v (.int _ i))=>some (some i)
    | _=>none
theorem optInt_eval {ev:Operand→AV} {E:Env} {w:World} {a:Act} {x:Option Operand} {r:Option Int} (h:optInt ev x=some r) (hv:∀y,x=some y→RV E w (ev y) (a.eval y)) :
    (x=none∧r=none)∨∃y k i,x=some y∧r=some i∧a.eval y= .int k i:=by
  cases x with
  | none=>cases h;exact .inl ⟨rfl,rfl⟩
  | some y =>
    simp only [optInt] at h
    split at h
    · rename_i k i he
      cases h
      have:=hv y rfl
      rw [he] at this
      obtain ⟨_,h1,_⟩:=this
      simp only [List.cons.injEq,and_true] at h1
      exact .inr ⟨y,k,i,rfl,rfl,h1⟩
    · cases h
theorem run_sliceBounds {b:Bool} {len cap:Nat} {ev:Operand→AV} {E:Env} {w:World} {a:Act} {lo hi:Option Operand} {l h:Option Int} (hl:optInt ev lo=some l) (hh:optInt ev hi=some h)
    (hvl:∀y,lo=some y→RV E w (ev y) (a.eval y)) (hvh:∀y,hi=some y→RV E w (ev y) (a.eval y)) (h0:0≤l.getD 0) (h1:l.getD 0≤h.getD len) (h2:h.getD len≤cap) :
    (Instr.sliceBounds b len cap (lo.map a.eval) (hi.map a.eval) none).run P w= .ok ((l.getD 0).toNat,(h.getD len).toNat,cap) w:=by
  have e2:(0:Int)≤h.getD len:=by omega
  rcases optInt_eval hl hvl with ⟨rfl,rfl⟩|⟨y,k,i,rfl,rfl,hy⟩<;> rcases optInt_eval hh hvh with ⟨rfl,rfl⟩|⟨z,k',i',rfl,rfl,hz⟩
  · simp [Instr.sliceBounds]
  · simp only [Option.getD_some] at h2 e2
    simp [Instr.sliceBounds,Instr.sliceBound,asIntOf,hz,e2,h2]
  · simp only [Option.getD_some,Option.getD_none] at h0 h1 h2
    simp [Instr.sliceBounds,Instr.sliceBound,asIntOf,hy,h0,h1]
  · simp only [Option.getD_some] at h0 h1 h2 e2
    have e3:i≤max i' 0:=by omega
    simp [Instr.sliceBounds,Instr.sliceBound,asIntOf,hy,hz,h0,e2,h2,e3]
theorem step_sliceStr {o:Oper} {T:TypeId} {x:Operand} {lo hi:Option Operand} (ho:o.op= .slice T x lo hi none) {ev:Operand→AV} {s:ByteArray} (hx:ev x= .one (.v (.string s))) (H:Nat→Option Box) {ti:TyI} (ht:tyI P T=some ti) (hk:ti.kind= .string)
    {l h:Option Int} (hl:optInt ev lo=some l) (hh:optInt ev hi=some h) (h0:0≤l.getD 0) (h1:l.getD 0≤h.getD s.size) (h2:h.getD s.size≤s.size) :
    StepSound P G o ev H { val:=.one (.v (.string (s.extract (l.getD 0).toNat (h.getD s.size).toNat))) }:=by
  refine step_value fun E w ac _ _ hops _=>⟨_,?_,rfl,rfl,rfl⟩
  have g1:=hops x (by rw [ho];simp [Op.operands])
  rw [hx] at g1
  obtain ⟨_,g1,_⟩:=g1
  simp only [List.cons.injEq,and_true] at g1
  unfold execOp;rw [ho];dsimp only
  rw [g1]
  have hb:=run_sliceBounds (P:=P) (b:=false) (len:=s.size) (cap:=s.size) hl hh (E:=E) (w:=w) (a:=ac) (fun y hy=>hops y (by rw [ho];subst hy;simp [Op.operands])) (fun y hy=>hops y (by rw [ho];subst hy;simp [Op.operands])) h0 h1 h2
  simp [Instr.sliceAt,Instr.slice,run_underlying (tyI_string ht hk),hb]
theorem step_sliceInts {o:Oper} {T:TypeId} {x:Operand} {lo hi:Option Operand} (ho:o.op= .slice T x lo hi none) {ev:Operand→AV} {k:IntKind} {xs:List Int} (hx:ev x= .one (.ints k xs)∨ev x= .one (.nn k xs)) (H:Nat→Option Box) {ti:TyI} (ht:tyI P T=some ti) {e:Nat} (hk:ti.kind= .slice e 1)
    {l h:Option Int} (hl:optInt ev lo=some l) (hh:optInt ev hi=some h) (h0:0≤l.getD 0) (h1:l.getD 0≤h.getD xs.length) (h2:h.getD xs.length≤xs.length) :
    StepSound P G o ev H { val:=.one (.ints k ((xs.drop (l.getD 0).toNat).take ((h.getD xs.length).toNat - (l.getD 0).toNat))) }:=by
  have hx':∀E w v,RV E w (ev x) v→IntsR E w k xs v:=by
    intro E w v hv
    rcases hx with hx|hx <;> rw [hx] at hv
    · obtain ⟨_,u,h3,h4⟩:=hv
      simp only [List.cons.injEq,and_true] at h3;subst h3;exact h4
    · obtain ⟨_,u,h3,h4⟩:=hv
      simp only [List.cons.injEq,and_true] at h3;subst h3;exact .inr h4
  refine step_value fun E w ac _ _ hops _=>?_
  have g1:=hx' _ _ _ (hops x (by rw [ho];simp [Op.operands]))
  obtain ⟨hu,hc⟩:=tyI_slice ht hk
  have hb:∀cap:Nat,xs.length≤cap→(Instr.sliceBounds true xs.length cap (lo.map ac.eval) (hi.map ac.eval) none).run P w= .ok ((l.getD 0).toNat,(h.getD xs.length).toNat,cap) w:=fun cap hcap=>
    run_sliceBounds (P:=P) hl hh (E:=E) (w:=w) (a:=ac) (fun y hy=>hops y (by rw [ho];subst hy;simp [Op.operands])) (fun y hy=>hops y (by rw [ho];subst hy;simp [Op.operands])) h0 h1 (by omega)
  rcases g1 with ⟨rfl,g1⟩|⟨b,off,c,g1,g2,g3,g4⟩
  · have hb:=hb 0 (by simp)
    have e1:(l.getD 0).toNat=0:=by simp at h1 h2;omega
    have e2:(h.getD (([]:List Int).length:Int)).toNat=0:=by simp at h2 ⊢;omega
    refine ⟨.slice none 0 0,?_,rfl,_,rfl,.inl ⟨by simp,rfl⟩⟩
    unfold execOp;rw [ho];dsimp only
    rw [g1]
    rw [e1,e2] at hb
    simp only [List.length_nil] at hb
    simp [Instr.sliceAt,Instr.slice,run_underlying hu,hb,sizeOf_run hc (by decide)]
  · have hb:=hb c g3
    refine ⟨.slice (some (if c=(l.getD 0).toNat then ⟨b,off,none⟩ else ⟨b,off+(l.getD 0).toNat,none⟩)) ((h.getD xs.length).toNat - (l.getD 0).toNat) (c - (l.getD 0).toNat),?_,rfl,_,rfl,.inr ?_⟩
    · unfold execOp;rw [ho];dsimp only
      rw [g1]
      have:∀d:Nat,(⟨b,off,none⟩:Addr).add (d*1)=⟨b,off+d,none⟩:=fun d=>by rw [Nat.mul_one,Addr.add_mid]
      simp only [Instr.sliceAt,Instr.slice,Sem.run_bind,run_underlying hu,Result.andThen_ok,Option.map_none,hb,sizeOf_run hc (by decide),Sem.run_pure,Option.map_some,Option.map_none,this]
      by_cases e3:c=(l.getD 0).toNat
      · simp only [if_pos e3]
      · simp only [if_neg e3]
    · have hlen:((xs.drop (l.getD 0).toNat).take ((h.getD xs.length).toNat - (l.getD 0).toNat)).length=(h.getD xs.length).toNat - (l.getD 0).toNat:=by
        simp;omega
      by_cases e3:c=(l.getD 0).toNat
      · refine ⟨b,off,c - (l.getD 0).toNat,by rw [if_pos e3,hlen],g2,by rw [hlen];omega,?_⟩
        have:(xs.drop (l.getD 0).toNat).take ((h.getD xs.length).toNat - (l.getD 0).toNat)= []:=by
          apply List.eq_nil_of_length_eq_zero;rw [hlen];omega
        rw [this]
        intro j v hv;simp at hv
      · refine ⟨b,off+(l.getD 0).toNat,c - (l.getD 0).toNat,by rw [if_neg e3,hlen],g2,by rw [hlen];omega,?_⟩
        have:=rangeAt_sub g4 (l.getD 0).toNat ((h.getD xs.length).toNat - (l.getD 0).toNat)
        rwa [←List.map_drop,←List.map_take] at this
-- axioms of step_sliceInts
end Go.Ax
end
section
namespace Go.Ax
open Go.RowKit (Below)
variable {P:Program} {G:World→Prop}
theorem setRange_toList (c:Array Value) (o:Nat) (vs:List Value) (h:o+vs.length≤c.size):(setRange c o vs).toList=c.toList.take o++(vs++c.toList.drop (o+vs.length)):=by
  apply List.ext_getElem?
  intro j
  rw [Array.getElem?_toList,setRange_get]
  by_cases h1:j < o
  · rw [if_neg (by omega),List.getElem?_append_left (by simp;omega),List.getElem?_take,if_pos h1,Array.getElem?_toList]
  · rw [List.getElem?_append_right (by simp;omega)]
    have e:(c.toList.take o).length=o:=by simp;omega
    rw [e]
    by_cases h2:j < o+vs.length
    · rw [if_pos (by omega),List.getElem?_append_left (by omega)]
    · rw [if_neg (by omega),List.getElem?_append_right (by omega),List.getElem?_drop,Array.getElem?_toList]
      congr 1;omega
theorem fill_foldl:∀(vs:List Value) (off k:Nat) (cells:Array Value),((vs.zipIdx k).foldl (fun cs (x:Value×Nat)=>cs.setIfInBounds (off+x.2) x.1) cells)=setRange cells (off+k) vs
  | [],_,_,_=>rfl
  | v :: vs, off, k, cells => by
    simp only [List.zipIdx_cons,List.foldl_cons,setRange]
    rw [fill_foldl vs off (k+1)]
    rfl
def buildL (offs:Nat→Option (Nat×Nat)) (ev:Operand→AV):List (Nat×Operand)→List Leaf→Option (List Leaf)
  | [],ls=>some ls
  | (i, x) :: r, ls => match offs i, (ev x).leaves with
    | some (off, sz), some new => match Nat.beq (sizes new) sz with
      | true => match setL ls off sz new with
        | some ls'=>buildL offs ev r ls'
        | none=>none
      | false=>none
    | _,_=>none
theorem setL_len {ls ls' new:List Leaf} {o n:Nat} {E:Env} {w:World} {cs:List Value} (h:LeavesR E w ls cs) (e:setL ls o n new=some ls'):o≤cs.length∧o+n≤cs.length:=by
  unfold setL at e
  cases ht:takeL ls o with
  | none=>rw [ht] at e;cases e
  | some a =>
    cases hd:dropL ls (o+n) with
    | none=>rw [ht,hd] at e;cases e
    | some b =>
      have h1:=(takeL_R h ht).2
      refine ⟨h1,?_⟩
      have:∀{ls:List Leaf} {n:Nat} {ls':List Leaf} {cs:List Value},LeavesR E w ls cs→dropL ls n=some ls'→n≤cs.length:=by
        intro ls
        induction ls with
        | nil => intro n ls' cs h e; cases n with
          | zero=>omega
          | succ n=>rw [show dropL [] (n+1)=none from rfl] at e;cases e
        | cons x xs ih =>
          intro n ls' cs h e
          cases n with
          | zero=>omega
          | succ n =>
            obtain ⟨ys,zs,rfl,h1,h2⟩:=h
            have hl:=(Leaf.R_len h1).1
            rw [dropL_succ] at e
            split at e
            · rename_i hb
              have hb:=Nat.le_of_ble_eq_true hb
              have:=ih h2 e
              simp;omega
            · rename_i hb
              have:¬(x.size≤n+1):=fun h=>by rw [Nat.ble_eq_true_of_le h] at hb;cases hb
              simp;omega
      exact this h hd
theorem fill_run {E:Env} {w:World} {ev:Operand→AV} {a:Act} {offs:Nat→Option (Nat×Nat)}:∀(parts:List (Nat×Operand)) (ls:List Leaf) (cells:Array Value) {ls':List Leaf},
    LeavesR E w ls cells.toList→(∀p∈parts,RV E w (ev p.2) (a.eval p.2))→buildL offs ev parts ls=some ls'→
    ∃cells',Instr.fill offs cells (parts.map fun p=>(p.1,a.eval p.2))=some cells'∧LeavesR E w ls' cells'.toList
  | [], ls, cells, ls', h, _, e => by
    simp only [buildL,Option.some.injEq] at e;subst e
    exact ⟨cells,rfl,h⟩
  | (i, x) :: r, ls, cells, ls', h, hp, e => by
    simp only [buildL] at e
    split at e
    · rename_i off sz new ho hn
      split at e
      · rename_i hs
        have hs:=Nat.eq_of_beq_eq_true hs
        cases hset:setL ls off sz new with
        | none=>rw [hset] at e;cases e
        | some ls1 =>
          rw [hset] at e
          have hx:=leaves_R (hp (i,x) (by simp)) hn
          have hlen:=(LeavesR_len hx).1
          have hle:=setL_len h hset
          simp only [Array.length_toList] at hlen hle
          have h1:=setL_R h hx hset
          have h2:(setRange cells off (a.eval x).cells.toList).toList=cells.toList.take off++((a.eval x).cells.toList++cells.toList.drop (off+sz)):=by
            rw [setRange_toList _ _ _ (by simp;omega)]
            simp only [Array.length_toList]
            rw [hlen,hs]
          rw [←h2] at h1
          obtain ⟨cells',h3,h4⟩:=fill_run r ls1 (setRange cells off (a.eval x).cells.toList) h1 (fun p hp'=>hp p (by simp [hp'])) e
          refine ⟨cells',?_,h4⟩
          simp only [List.map_cons,Instr.fill,ho]
          have hc1:(a.eval x).cells.size=sz:=by rw [hlen,hs]
          have hc2:¬(off+(a.eval x).cells.size > cells.size):=by omega
          have hf:Array.foldl (fun cs (x:Value×Nat)=>cs.setIfInBounds (off+x.2) x.1) cells (a.eval x).cells.zipIdx=setRange cells off (a.eval x).cells.toList:=by
            rw [←Array.foldl_toList,Array.toList_zipIdx]
            exact fill_foldl _ off 0 cells
          rw [hc1] at hc2
          simp only [hc1,ne_eq,not_true_eq_false,decide_false,Bool.false_or,decide_eq_true_eq]
          rw [if_neg hc2,hf,h3]
      · cases e
    · cases e
def partOffs:TyK→Nat→Option (Nat×Nat)
  | .struct offs, i => match offs[i]? with
    | some o=>some (o.1,o.2.1)
    | none=>none
  | .array _ _ sz,i=>some (i*sz,sz)
  | _,_=>none
def partsOk:TyK→Bool
  | .struct offs=>offs.all fun o=>Nat.ble 1 o.2.1
  | .array _ _ sz=>Nat.ble 1 sz
  | _=>false
theorem tyI_structs {t:TypeId} {ti:TyI} (h:tyI P t=some ti) {offs:List (Nat×Nat×Bool)} (hk:ti.kind= .struct offs) :
    ∃fs,P.underlying t=some (.struct fs)∧offs=fs.toList.map fun f=>(f.offset,P.cellsOf f.type,((P.underlying f.type).map (·.isRow)).getD false):=by
  unfold tyI at h
  split at h
  · rename_i i' d' h1 h2
    cases h
    dsimp only at hk
    split at hk <;> try (cases hk;done)
    cases hk
    exact ⟨_,h2,rfl⟩
  · cases h
theorem step_build {o:Oper} {T:TypeId} {parts:Array (Nat×Operand)} (ho:o.op= .build T parts) {ev:Operand→AV} (H:Nat→Option Box) {ti:TyI} (ht:tyI P T=some ti) (hpo:partsOk ti.kind=true) {zs:List Value} (hz:ti.zero=some zs) (h1:zs.all (·.oneCell')=true)
    {ls:List Leaf} (hls:buildL (partOffs ti.kind) ev parts.toList (zs.map Leaf.v)=some ls):StepSound P G o ev H { val:=.agg ls }:=by
  refine step_value fun E w ac _ _ hops _=>?_
  obtain ⟨i,d,hi,hu,_,_,_,h2⟩:=tyI_spec ht
  rw [hz] at h2
  cases hzero:i.zero with
  | none=>rw [hzero] at h2;cases h2
  | some z =>
    rw [hzero] at h2;simp only [Option.map_some,Option.some.injEq] at h2
    obtain ⟨cells',h3,h4⟩:=fill_run (E:=E) (w:=w) (a:=ac) parts.toList (zs.map Leaf.v) z.cells (by rw [←h2];exact LeavesR_v zs h1)
      (fun p hp=>hops p.2 (by rw [ho];simp only [Op.operands];simp only [List.mem_toArray,List.mem_map];exact ⟨p,by simpa using hp,rfl⟩)) hls
    refine ⟨.agg cells',?_,cells'.toList,by simp,h4⟩
    unfold execOp;rw [ho];dsimp only
    have hzr:(zeroValue T).run P w= .ok z w:=by simp [zeroValue,typeInfo,hi,hzero]
    have e1:(parts.map fun x=>(x.1,ac.eval x.2)).toList=parts.toList.map fun p=>(p.1,ac.eval p.2):=by simp
    unfold partsOk at hpo
    split at hpo
    · rename_i offs hk
      obtain ⟨fs,h5,h6⟩:=tyI_structs ht hk
      have hmap:(fs.mapM fun f=>(do pure (f.offset,←sizeOf f.type):Sem (Nat×Nat))).run P w= .ok (fs.map fun f=>(f.offset,P.cellsOf f.type)) w:=by
        rw [h6] at hpo
        simp only [List.all_map,List.all_eq_true,Function.comp] at hpo
        have gen:∀(l:List Field) (acc:Array (Nat×Nat)),(∀f∈l,0 < P.cellsOf f.type)→
            (l.foldlM (fun (bs:Array (Nat×Nat)) (f:Field)=>(do let b ←(do pure (f.offset,←sizeOf f.type):Sem (Nat×Nat));pure (bs.push b):Sem (Array (Nat×Nat)))) acc).run P w= .ok (acc++(l.map fun f=>(f.offset,P.cellsOf f.type)).toArray) w:=by
          intro l
          induction l with
          | nil=>intro acc _;simp
          | cons f l ih =>
            intro acc hl
            have:=sizeOf_run (P:=P) (t:=f.type) rfl (hl f (by simp)) w
            simp only [List.foldlM_cons,Sem.run_bind,this,Result.andThen_ok,Sem.run_pure]
            rw [ih _ (fun f' h'=>hl f' (by simp [h']))]
            simp
        rw [Array.mapM_eq_foldlM,←Array.foldlM_toList]
        have:=gen fs.toList #[] (fun f hf=>Nat.le_of_ble_eq_true (hpo f hf))
        refine Eq.trans ?_ (this.trans ?_)
        · rfl
        · congr 1;apply Array.ext';simp only [Array.toList_map,Array.empty_append,List.toList_toArray]
      simp only [Instr.build,Sem.run_bind,hzr,Result.andThen_ok,run_underlying h5,hmap]
      have hoff:(fun j=>(fs.map fun f=>(f.offset,P.cellsOf f.type))[j]?)=partOffs ti.kind:=by
        funext j
        rw [hk,h6]
        simp [partOffs]
        cases fs[j]? <;> rfl
      simp only [hoff,e1,h3,Sem.run_pure,Result.andThen_ok]
    · rename_i n e sz hk
      obtain ⟨h5,h6⟩:=tyI_array ht hk
      have hsz:=Nat.le_of_ble_eq_true hpo
      simp only [Instr.build,Sem.run_bind,hzr,Result.andThen_ok,run_underlying h5,sizeOf_run h6 hsz]
      have hoff:(fun i=>some (i*sz,sz))=partOffs ti.kind:=by rw [hk];rfl
      simp only [hoff,e1,h3,Sem.run_pure,Result.andThen_ok]
    · cases hpo
/-! ### make -/
theorem madeCells_get {z:Array Value} {sz m i j:Nat} (hz:z.size=sz) (hi:i < m) (hj:j < sz):(madeCells z (m*sz))[i*sz+j]?=z[j]?:=by
  have hlt:i*sz+j < m*sz:=by
    have:(i+1)*sz≤m*sz:=Nat.mul_le_mul_right _ hi
    rw [Nat.add_mul] at this;omega
  have hmod:(i*sz+j)%z.size=j:=by rw [hz,Nat.mul_comm,Nat.mul_add_mod,Nat.mod_eq_of_lt hj]
  have hj':j < z.size:=by omega
  simp [madeCells,hlt,hmod,hj']
theorem step_make {o:Oper} {T:TypeId} {x y:Operand} (ho:o.op= .makeSlice T x y) {ev:Operand→AV} {kl kc:IntKind} {l c:Int} (hx:ev x= .one (.v (.int kl l))) (hy:ev y= .one (.v (.int kc c))) (H:Nat→Option Box) (id:Nat)
    {ti te:TyI} (ht:tyI P T=some ti) {e sz:Nat} (hk:ti.kind= .slice e sz) (_hsz:0 < sz) (hte:tyI P e=some te) {zs:List Value} (hz:te.zero=some zs) (h1:zs.all (·.oneCell')=true) (hzl:zs.length=sz)
    (hp:0≤l∧l≤c∧(te.bytes:Int)*c≤281474976710656∧c≤9223372036854775807) :
    StepSound P G o ev H { val:=.one (.own id sz 0 l.toNat c.toNat),eff:=.new id { sz:=sz,n:=c.toNat,g:=fun _=>zs.map Leaf.v } }:=by
  intro nn ro E w a K Q hdf hE hG hops hb hid hK
  have hid:=hid id _ rfl
  have g1:=hops x (by rw [ho];simp [Op.operands])
  have g2:=hops y (by rw [ho];simp [Op.operands])
  rw [hx] at g1;rw [hy] at g2
  obtain ⟨_,g1,_⟩:=g1
  obtain ⟨_,g2,_⟩:=g2
  simp only [List.cons.injEq,and_true] at g1 g2
  obtain ⟨hu,hc⟩:=tyI_slice ht hk
  obtain ⟨i,d,hi,_,hs,hby,_,h2⟩:=tyI_spec hte
  rw [hz] at h2
  cases hzero:i.zero with
  | none=>rw [hzero] at h2;cases h2
  | some z =>
    rw [hzero] at h2;simp only [Option.map_some,Option.some.injEq] at h2
    have hsi:i.size=sz:=by
      unfold Program.cellsOf at hc;rw [hi] at hc;simpa using hc
    have hrun:=run_make (P:=P) w T e i z hu hi hzero kl kc l c hp.1 hp.2.1 (by rw [hby];exact hp.2.2.1) hp.2.2.2
    refine wpIn_open hdf ?_
    unfold execOp
    rw [ho];dsimp only
    rw [g1,g2]
    simp only [Sem.run_bind,hrun,Result.andThen_ok,Sem.run_pure]
    have hk':=keeps_add (below_alloc w (.cells (madeCells z.cells (c.toNat*i.size)) e)) hid (Nat.le_refl _)
    have hρ:(E.add id w.heap.size).ρ id=some w.heap.size:=by simp [Env.add]
    have hzs:z.cells.size=sz:=by rw [←hzl,h2];simp
    refine hK _ (E.add id w.heap.size) _ ⟨rfl,_,hρ,by simp⟩ ⟨w.heap.size,Nat.le_refl _,heap_alloc_lt _ _,hid,rfl,below_alloc _ _,.inr ⟨w.heap.size,_,e,hρ,heap_alloc_last _ _,Nat.le_of_eq (by rw [size_madeCells,hsi]),fun j hj=>⟨zs,?_,LeavesR_v zs h1,fun d v hv=>?_⟩⟩⟩
    · have:=(LeavesR_len (LeavesR_v (E:=E) (w:=w) zs h1)).1
      rw [←this,hzl]
    · have hd:d < sz:=by have:=(List.getElem?_eq_some_iff.1 hv).1;omega
      show (madeCells z.cells (c.toNat*i.size))[j*sz+d]?=some v
      rw [hsi,madeCells_get hzs hj hd,←hv,h2,Array.getElem?_toList]
theorem step_sliceOwn {o:Oper} {T:TypeId} {x:Operand} {lo hi:Option Operand} (ho:o.op= .slice T x lo hi none) {ev:Operand→AV} {b s i n c:Nat} (hx:ev x= .one (.own b s i n c)) (H:Nat→Option Box) {ti:TyI} (ht:tyI P T=some ti) {e:Nat} (hk:ti.kind= .slice e s) (hs:0 < s)
    {l h:Option Int} (hl:optInt ev lo=some l) (hh:optInt ev hi=some h) (h0:0≤l.getD 0) (h1:l.getD 0≤h.getD n) (h2:h.getD n≤c) (h3:l.getD 0=0∨l.getD 0 < c) :
    StepSound P G o ev H { val:=.one (.own b s (i+(l.getD 0).toNat) ((h.getD n).toNat - (l.getD 0).toNat) (c - (l.getD 0).toNat)) }:=by
  refine step_value fun E w ac _ _ hops _=>?_
  have g1:=hops x (by rw [ho];simp [Op.operands])
  rw [hx] at g1
  obtain ⟨_,k,g2,g1⟩:=g1
  simp only [List.cons.injEq,and_true] at g1
  obtain ⟨hu,hc⟩:=tyI_slice ht hk
  have hb:(Instr.sliceBounds true n c (lo.map ac.eval) (hi.map ac.eval) none).run P w= .ok ((l.getD 0).toNat,(h.getD n).toNat,c) w:=
    run_sliceBounds (P:=P) hl hh (E:=E) (w:=w) (a:=ac) (fun y hy=>hops y (by rw [ho];subst hy;simp [Op.operands])) (fun y hy=>hops y (by rw [ho];subst hy;simp [Op.operands])) h0 h1 h2
  refine ⟨.slice (some ⟨k,(i+(l.getD 0).toNat)*s,none⟩) ((h.getD n).toNat - (l.getD 0).toNat) (c - (l.getD 0).toNat),?_,rfl,k,g2,rfl⟩
  unfold execOp;rw [ho];dsimp only
  rw [g1]
  simp only [Instr.sliceAt,Instr.slice,Sem.run_bind,run_underlying hu,Result.andThen_ok,Option.map_none,hb,sizeOf_run hc hs,Sem.run_pure,Option.map_some,Addr.add_mid]
  rcases h3 with h3|h3
  · rw [h3];simp
  · have:c≠(l.getD 0).toNat:=by omega
    simp only [if_neg this,Nat.add_mul]
theorem step_min {o:Oper} {x y:Operand} {ats:Array TypeId} (ho:o.op= .call { callee:=.builtin .min,args:=#[x,y],argTypes:=ats }) {ev:Operand→AV} {k:IntKind} {a b:Int} (hx:ev x= .one (.v (.int k a))) (hy:ev y= .one (.v (.int k b))) (H:Nat→Option Box) :
    StepSound P G o ev H { val:=.one (.v (.int k (if b < a then b else a))) }:=by
  refine step_value fun E w ac _ _ hops _=>⟨.int k (if b < a then b else a),?_,rfl,rfl,rfl⟩
  have g1:=hops x (by rw [ho];simp [Op.operands,Call.operands])
  have g2:=hops y (by rw [ho];simp [Op.operands,Call.operands])
  rw [hx] at g1;rw [hy] at g2
  obtain ⟨_,g1,_⟩:=g1
  obtain ⟨_,g2,_⟩:=g2
  simp only [List.cons.injEq,and_true] at g1 g2
  unfold execOp;rw [ho]
  simp [resolve,invoke,builtin,Builtin.min_,Builtin.min2,g1,g2]
theorem step_max {o:Oper} {x y:Operand} {ats:Array TypeId} (ho:o.op= .call { callee:=.builtin .max,args:=#[x,y],argTypes:=ats }) {ev:Operand→AV} {k:IntKind} {a b:Int} (hx:ev x= .one (.v (.int k a))) (hy:ev y= .one (.v (.int k b))) (H:Nat→Option Box) :
    StepSound P G o ev H { val:=.one (.v (.int k (if a < b then b else a))) }:=by
  refine step_value fun E w ac _ _ hops _=>⟨.int k (if a < b then b else a),?_,rfl,rfl,rfl⟩
  have g1:=hops x (by rw [ho];simp [Op.operands,Call.operands])
  have g2:=hops y (by rw [ho];simp [Op.operands,Call.operands])
  rw [hx] at g1;rw [hy] at g2
  obtain ⟨_,g1,_⟩:=g1
  obtain ⟨_,g2,_⟩:=g2
  simp only [List.cons.injEq,and_true] at g1 g2
  unfold execOp;rw [ho]
  simp [resolve,invoke,builtin,Builtin.max_,Builtin.max2,g1,g2]
/-! ### A slice written out: nobody writes it any more -/
def rowLeaves (ev:Operand→AV):List (Nat×Operand)→Nat→Option (List (List Leaf))
  | [],_=>some []
  | (i, x) :: r, j => match Nat.beq i j with
    | true => match (ev x).leaves, rowLeaves ev r (j + 1) with
      | some ls,some rest=>some (ls :: rest)
      | _,_=>none
    | false=>none
theorem rowLeaves_fill {E:Env} {w:World} {ev:Operand→AV} {a:Act} {sz:Nat}:∀(parts:List (Nat×Operand)) (j:Nat) (lss:List (List Leaf)) (cells:Array Value),
    rowLeaves ev parts j=some lss→(∀ls∈lss,sizes ls=sz)→(∀p∈parts,RV E w (ev p.2) (a.eval p.2))→(j+parts.length)*sz≤cells.size→
    ∃cells',Instr.fill (fun i=>some (i*sz,sz)) cells (parts.map fun p=>(p.1,a.eval p.2))=some cells'∧cells'.size=cells.size∧
      (∀d,d < j*sz→cells'[d]?=cells[d]?)∧∀i ls,lss[i]?=some ls→∃es,LeavesR E w ls es∧∀d v,es[d]?=some v→cells'[(j+i)*sz+d]?=some v
  | [], j, lss, cells, h, _, _, _ => by
    cases h
    exact ⟨cells,rfl,rfl,fun _ _=>rfl,fun i ls h=>by simp at h⟩
  | (i, x) :: r, j, lss, cells, h, hsz, hp, hle => by
    simp only [rowLeaves] at h
    split at h
    · rename_i e
      have e:=Nat.eq_of_beq_eq_true e
      subst e
      split at h
      · rename_i ls rest h1 h2
        cases h
        have hx:=leaves_R (hp (i,x) (by simp)) h1
        have hlen:=(LeavesR_len hx).1
        simp only [Array.length_toList] at hlen
        have hs:=hsz ls (by simp)
        simp only [List.length_cons] at hle
        have hle':(i+1)*sz≤cells.size:=Nat.le_trans (Nat.mul_le_mul_right _ (by omega)) hle
        rw [Nat.add_mul] at hle'
        obtain ⟨cells',h3,h4,h5,h6⟩:=rowLeaves_fill r (i+1) rest (setRange cells (i*sz) (a.eval x).cells.toList) h2 (fun ls' h'=>hsz ls' (by simp [h'])) (fun p hp'=>hp p (by simp [hp'])) (by rw [setRange_size];rw [show i+1+r.length=i+(r.length+1) by omega];exact hle)
        refine ⟨cells',?_,by rw [h4,setRange_size],fun d hd=>?_,fun m ls' hm=>?_⟩
        · simp only [List.map_cons,Instr.fill]
          have hc1:(a.eval x).cells.size=sz:=by rw [hlen,hs]
          have hf:Array.foldl (fun cs (x:Value×Nat)=>cs.setIfInBounds (i*sz+x.2) x.1) cells (a.eval x).cells.zipIdx=setRange cells (i*sz) (a.eval x).cells.toList:=by
            rw [←Array.foldl_toList,Array.toList_zipIdx]
            exact fill_foldl _ (i*sz) 0 cells
          have hc2:¬(i*sz+sz > cells.size):=by omega
          simp only [hc1,ne_eq,not_true_eq_false,decide_false,Bool.false_or,decide_eq_true_eq]
          rw [if_neg hc2,hf,h3]
        · rw [h5 d (by rw [Nat.add_mul];omega),setRange_get,if_neg (by omega)]
        · cases m with
          | zero =>
            simp at hm;subst hm
            refine ⟨_,hx,fun d v hv=>?_⟩
            have hd:=(List.getElem?_eq_some_iff.1 hv).1
            simp only [Array.length_toList] at hd
            rw [Nat.add_zero,h5 _ (by rw [Nat.add_mul];omega),setRange_get,if_pos (by simp;omega),←hv]
            congr 1;omega
          | succ m =>
            obtain ⟨es,h7,h8⟩:=h6 m ls' (by simpa using hm)
            exact ⟨es,h7,fun d v hv=>by have:=h8 d v hv;rw [show i+(m+1)=i+1+m by omega];exact this⟩
      · cases h
    · cases h
theorem step_buildSlice {o:Oper} {T:TypeId} {len:Nat} {parts:Array (Nat×Operand)} (ho:o.op= .buildSlice T len parts) {ev:Operand→AV} (H:Nat→Option Box) {ti te:TyI} (ht:tyI P T=some ti) {e sz:Nat} (hk:ti.kind= .slice e sz) (hsz:0 < sz)
    (hte:tyI P e=some te) {zs:List Value} (hz:te.zero=some zs) {lss:List (List Leaf)} (hl:rowLeaves ev parts.toList 0=some lss) (hls:∀ls∈lss,sizes ls=sz) (hcl:∀ls∈lss,clL 0 ls) (hn:lss.length=len) (hlen:parts.toList.length=len) (hmax:len*sz≤16777216) :
    StepSound P G o ev H { val:=.one (.row sz len fun i=>lss.getD i []) }:=by
  intro nn ro E w a K Q hdf hE hG hops _ _ hK
  obtain ⟨hu,hc⟩:=tyI_slice ht hk
  obtain ⟨i,d,hi,_,hs,hby,_,h2⟩:=tyI_spec hte
  rw [hz] at h2
  cases hzero:i.zero with
  | none=>rw [hzero] at h2;cases h2
  | some z =>
    have hzr:(zeroValue e).run P w= .ok z w:=by simp [zeroValue,typeInfo,hi,hzero]
    have hops':∀p∈parts.toList,RV E w (ev p.2) (a.eval p.2):=fun p hp=>hops p.2 (by rw [ho];simp only [Op.operands];simp only [List.mem_toArray,List.mem_map];exact ⟨p,hp,rfl⟩)
    have e1:(parts.map fun x=>(x.1,a.eval x.2)).toList=parts.toList.map fun p=>(p.1,a.eval p.2):=by simp
    have hfill:∀z':Array Value,∃cells',Instr.fill (fun i=>some (i*sz,sz)) ((Array.range (len*sz)).map (z'[·%z'.size]!)) (parts.toList.map fun p=>(p.1,a.eval p.2))=some cells'∧cells'.size=len*sz∧
        ∀i ls,lss[i]?=some ls→∃es,LeavesR E w ls es∧∀d v,es[d]?=some v→cells'[i*sz+d]?=some v:=by
      intro z'
      obtain ⟨cells',h3,h4,_,h6⟩:=rowLeaves_fill (E:=E) (w:=w) (a:=a) parts.toList 0 lss ((Array.range (len*sz)).map (z'[·%z'.size]!)) hl hls hops' (by simp only [Array.length_toList] at hlen;simp [hlen])
      exact ⟨cells',h3,by rw [h4];simp,fun i ls h=>by have:=h6 i ls h;simpa using this⟩
    have hrun:∃cells',(execOp a.eval o).run P w= .ok (.value (.slice (some ⟨w.heap.size,0,none⟩) len len)) (w.alloc (.cells cells' e))∧cells'.size=len*sz∧
        ∀i ls,lss[i]?=some ls→∃es,LeavesR E w ls es∧∀d v,es[d]?=some v→cells'[i*sz+d]?=some v:=by
      by_cases h0:len*sz=0
      · obtain ⟨cells',h3,h4,h5⟩:=hfill #[]
        refine ⟨cells',?_,h4,h5⟩
        unfold execOp;rw [ho];dsimp only
        simp only [Instr.buildSlice,Sem.run_bind,run_underlying hu,Result.andThen_ok,sizeOf_run hc hsz]
        have hm:¬((0:Nat) > 2 ^ 24):=by decide
        rw [h0] at h3
        simp only [h0,hm,if_false,if_true,Sem.run_bind,Sem.run_pure,Result.andThen_ok,e1,h3,newRow,newObj]
        rfl
      · obtain ⟨cells',h3,h4,h5⟩:=hfill z.cells
        refine ⟨cells',?_,h4,h5⟩
        unfold execOp;rw [ho];dsimp only
        simp only [Instr.buildSlice,Sem.run_bind,run_underlying hu,Result.andThen_ok,sizeOf_run hc hsz]
        have hm:¬(len*sz > 2 ^ 24):=by omega
        simp only [hm,if_false,h0,hzr,Sem.run_bind,Sem.run_pure,Result.andThen_ok,e1,h3,newRow,newObj]
        rfl
    obtain ⟨cells',h3,h4,h5⟩:=hrun
    refine wpIn_open hdf ?_
    rw [h3]
    have hk':=keeps_below (E:=E) (below_alloc w (.cells cells' e))
    refine hK _ E _ ⟨rfl,.inr ⟨w.heap.size,0,len,rfl,⟨heap_alloc_lt _ _,fun h=>?_,fun b h=>?_⟩,Nat.le_refl _,fun j hj=>?_⟩⟩ ⟨rfl,below_alloc _ _⟩
    · have:=hE.m _ h;omega
    · have:=hE.r _ _ h;omega
    · have hj':j < lss.length:=by omega
      obtain ⟨es,h6,h7⟩:=h5 j lss[j] (by simp [hj'])
      have hg:lss.getD j []=lss[j]:=by simp [List.getD_eq_getElem?_getD,hj']
      refine ⟨es,by show sizes (lss.getD j [])=sz;rw [hg];exact hls _ (List.getElem_mem hj'),by show LeavesR E.shut _ (lss.getD j []) es;rw [hg];exact (into_shut E _).leaves (hcl _ (List.getElem_mem hj')) (hk'.leaves h6),fun d v hv=>?_⟩
      rw [Nat.zero_add,cell_of_row _ _ _ cells' e (0,0) (heap_alloc_last _ _)]
      exact h7 d v hv
theorem step_buildSlice0 {o:Oper} {T:TypeId} {parts:Array (Nat×Operand)} (ho:o.op= .buildSlice T 0 parts) {ev:Operand→AV} (H:Nat→Option Box) {ti:TyI} (ht:tyI P T=some ti) {e sz:Nat} (hk:ti.kind= .slice e sz) (hsz:0 < sz) (hp:parts.toList= []) (id:Nat) :
    StepSound P G o ev H { val:=.one (.gr id sz 0 0),eff:=.new id ⟨sz,0,fun _=> [],true⟩}:=by
  intro nn ro E w a K Q hdf hE hG hops _ hid hK
  obtain ⟨hu,hc⟩:=tyI_slice ht hk
  have hid:=hid id _ rfl
  have hp:parts=#[]:=by rw [←Array.toList_inj];exact hp
  subst hp
  have hrun:(execOp a.eval o).run P w= .ok (.value (.slice (some ⟨w.heap.size,0,none⟩) 0 0)) (w.alloc (.cells #[] e)):=by
    unfold execOp;rw [ho];dsimp only
    simp only [Instr.buildSlice,Sem.run_bind,run_underlying hu,Result.andThen_ok,sizeOf_run hc hsz]
    have hm:¬((0:Nat) > 2 ^ 24):=by decide
    have hf:Instr.fill (fun i=>some (i*sz,sz)) (Array.map (fun x=>(#[]:Array Value)[x%(#[]:Array Value).size]!) (Array.range 0)) ((Array.map (fun x:Nat×Operand=>(x.fst,a.eval x.snd)) #[]).toList)=some #[]:=by simp [Instr.fill]
    simp only [Nat.zero_mul,hm,if_false,if_true,Sem.run_bind,Sem.run_pure,Result.andThen_ok,newRow,newObj,hf]
    rfl
  refine wpIn_open hdf ?_
  rw [hrun]
  have hρ:(E.add id w.heap.size).ρ id=some w.heap.size:=by simp [Env.add]
  exact hK _ (E.add id w.heap.size) _ ⟨rfl,.inr ⟨_,hρ,rfl⟩⟩ ⟨w.heap.size,Nat.le_refl _,heap_alloc_lt _ _,hid,rfl,below_alloc _ _,.inl ⟨rfl,rfl⟩⟩
-- axioms of step_buildSlice0
-- axioms of step_buildSlice
end Go.Ax
end
