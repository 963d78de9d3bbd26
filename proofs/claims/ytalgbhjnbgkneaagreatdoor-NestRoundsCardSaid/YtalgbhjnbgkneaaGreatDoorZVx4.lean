/- Lemmas on the program and its library, part Vx4. -/
import Derived.Test.YtalgbhjnbgkneaaGreatDoorZVxT
set_option linter.unusedVariables false
set_option linter.unusedSimpArgs false
section
namespace Go.Vx
open Go.Ax
open Go.RowKit (Below)
section
variable {P:Program} {w0:World} {ng:Nat}
def lenV (h:Nat→Option Blk):VV→Option Int
  | .s (.string s)=>some s.size
  | .s (.slice none n _)=>some n
  | .sl b _ _ n _ => match h b with
    | some _=>some n
    | none=>none
  | .z0 b _ => match h b with
    | some _=>some 0
    | none=>none
  | _=>none
theorem stepV_len {o:Oper} {x:Operand} {T:TypeId} {ats:Array TypeId} (ho:o.op= .call { callee:=.builtin .len,args:=#[x],argTypes:=ats }) (hT:ats[0]?=some T) {ev:Operand→VV} {h:Nat→Option Blk} {n:Int} (hx:lenV h (ev x)=some n)
    {ti:TyI} (ht:tyI P T=some ti) (hk:ti.kind= .string∧(∃s,ev x= .s (.string s))∨(∃e sz,ti.kind= .slice e sz)∧¬∃s,ev x= .s (.string s)) (nb:Nat):StepV P w0 ng o ev h nb nb (.s (.int .i64 n)) h (fun _=>False):=by
  refine stepV_val (fun c hc=>by rw [ho] at hc;cases hc) fun ρ w a hw hops=>⟨.int .i64 n,?_,rfl,rfl⟩
  have h1:=hops x (by rw [ho];simp [Op.operands,Call.operands])
  unfold execOp;rw [ho]
  simp only [resolve,invoke,builtin,Builtin.len_,List.map_toArray,List.map_cons,List.map_nil,List.getElem?_toArray,List.getElem?_cons_zero,hT,Sem.run_bind,Sem.run_pure,Result.andThen_ok]
  rcases hk with ⟨hk,s,hs'⟩|⟨⟨e,sz,hk⟩,hn⟩
  · rw [hs'] at h1 hx
    obtain ⟨h1,_⟩:=h1
    simp only [lenV,Option.some.injEq] at hx
    simp [run_underlying (tyI_string ht hk),h1,goInt,hx]
  · have hu:=run_underlying (tyI_slice ht hk).1 (P:=P) w
    have hv:∃a' n' c,a.eval x= .slice a' n' c∧(n':Int)=n:=by
      unfold lenV at hx
      split at hx
      · rename_i s hs;exact absurd ⟨s,hs⟩ hn
      · rename_i n' c hs
        cases hx
        rw [hs] at h1
        exact ⟨_,_,_,h1.1,rfl⟩
      · rename_i b off es n' c hs
        split at hx
        · rename_i z hb
          cases hx
          obtain ⟨k,s,g1,_⟩:=hw.blk b _ hb
          rw [hs] at h1
          obtain ⟨_,h1⟩:=h1
          rw [g1] at h1
          obtain ⟨C,_,_,_,h1⟩:=h1
          exact ⟨_,_,_,h1,rfl⟩
        · cases hx
      · rename_i b off hs
        split at hx
        · rename_i z hb
          cases hx
          obtain ⟨k,s,g1,_⟩:=hw.blk b _ hb
          rw [hs] at h1
          obtain ⟨_,h1⟩:=h1
          rw [g1] at h1
          exact ⟨_,_,_,h1,rfl⟩
        · cases hx
      · cases hx
    obtain ⟨a',n',c,e1,e2⟩:=hv
    simp [hu,e1,goInt,e2]
def maxV (k:IntKind):Int→List VV→Option Int
  | x,[]=>some x
  | x, .s (.int k' y) :: r => match sameK k k' with
    | true=>maxV k (if x < y then y else x) r
    | false=>none
  | _,_=>none
def minV (k:IntKind):Int→List VV→Option Int
  | x,[]=>some x
  | x, .s (.int k' y) :: r => match sameK k k' with
    | true=>minV k (if y < x then y else x) r
    | false=>none
  | _,_=>none
theorem run_maxV {ρ:Nat→Ph} {k:IntKind} {w:World}:∀(l:List VV) (vs:List Value) (x z:Int),Rs ρ l vs→maxV k x l=some z→(vs.foldlM Builtin.max2 (.int k x)).run P w= .ok (.int k z) w
  | [],vs,x,z,h,e=>by rw [show vs= [] from h];simp only [maxV,Option.some.injEq] at e;subst e;rfl
  | y :: l, vs, x, z, h, e => by
    obtain ⟨v,r,rfl,h1,h2⟩:=h
    unfold maxV at e
    split at e
    · rename_i hh;cases hh
    · rename_i k' y' r' hh
      cases hh
      split at e
      · rename_i hk
        have hk:=sameK_eq hk
        subst hk
        obtain ⟨h1,_⟩:=h1
        subst h1
        simp only [List.foldlM_cons,Builtin.max2,Sem.run_bind,Sem.run_pure,Result.andThen_ok]
        exact run_maxV _ _ _ _ h2 e
      · cases e
    · cases e
theorem run_minV {ρ:Nat→Ph} {k:IntKind} {w:World}:∀(l:List VV) (vs:List Value) (x z:Int),Rs ρ l vs→minV k x l=some z→(vs.foldlM Builtin.min2 (.int k x)).run P w= .ok (.int k z) w
  | [],vs,x,z,h,e=>by rw [show vs= [] from h];simp only [minV,Option.some.injEq] at e;subst e;rfl
  | y :: l, vs, x, z, h, e => by
    obtain ⟨v,r,rfl,h1,h2⟩:=h
    unfold minV at e
    split at e
    · rename_i hh;cases hh
    · rename_i k' y' r' hh
      cases hh
      split at e
      · rename_i hk
        have hk:=sameK_eq hk
        subst hk
        obtain ⟨h1,_⟩:=h1
        subst h1
        simp only [List.foldlM_cons,Builtin.min2,Sem.run_bind,Sem.run_pure,Result.andThen_ok]
        exact run_minV _ _ _ _ h2 e
      · cases e
    · cases e
theorem stepV_max {o:Oper} {xs:Array Operand} {ats:Array TypeId} (ho:o.op= .call { callee:=.builtin .max,args:=xs,argTypes:=ats }) {ev:Operand→VV} {k:IntKind} {x z:Int} {l:List VV} (hx:xs.toList.map ev= .s (.int k x) :: l) (hz:maxV k x l=some z) (h:Nat→Option Blk) (nb:Nat) :
    StepV P w0 ng o ev h nb nb (.s (.int k z)) h (fun _=>False):=by
  refine stepV_val (fun c hc=>by rw [ho] at hc;cases hc) fun ρ w a hw hops=>⟨.int k z,?_,rfl,rfl⟩
  have hR:=Rs.map (ρ:=ρ) (f:=ev) (g:=a.eval) xs.toList fun y hy=>hops y (by rw [ho];simpa [Op.operands,Call.operands] using hy)
  rw [hx] at hR
  obtain ⟨v,r,e,h1,h2⟩:=hR
  obtain ⟨h1,_⟩:=h1
  subst h1
  unfold execOp;rw [ho]
  have e':(xs.map a.eval).toList= .int k x :: r:=by rw [Array.toList_map];exact e
  simp only [resolve,invoke,builtin,Builtin.max_,Sem.run_bind,Sem.run_pure,Result.andThen_ok,e',run_maxV (P:=P) (w:=w) l r x z h2 hz]
theorem stepV_min {o:Oper} {xs:Array Operand} {ats:Array TypeId} (ho:o.op= .call { callee:=.builtin .min,args:=xs,argTypes:=ats }) {ev:Operand→VV} {k:IntKind} {x z:Int} {l:List VV} (hx:xs.toList.map ev= .s (.int k x) :: l) (hz:minV k x l=some z) (h:Nat→Option Blk) (nb:Nat) :
    StepV P w0 ng o ev h nb nb (.s (.int k z)) h (fun _=>False):=by
  refine stepV_val (fun c hc=>by rw [ho] at hc;cases hc) fun ρ w a hw hops=>⟨.int k z,?_,rfl,rfl⟩
  have hR:=Rs.map (ρ:=ρ) (f:=ev) (g:=a.eval) xs.toList fun y hy=>hops y (by rw [ho];simpa [Op.operands,Call.operands] using hy)
  rw [hx] at hR
  obtain ⟨v,r,e,h1,h2⟩:=hR
  obtain ⟨h1,_⟩:=h1
  subst h1
  unfold execOp;rw [ho]
  have e':(xs.map a.eval).toList= .int k x :: r:=by rw [Array.toList_map];exact e
  simp only [resolve,invoke,builtin,Builtin.min_,Sem.run_bind,Sem.run_pure,Result.andThen_ok,e',run_minV (P:=P) (w:=w) l r x z h2 hz]
def buildV (offs:Nat→Option (Nat×Nat)) (ev:Operand→VV):List (Nat×Operand)→List VV→Option (List VV)
  | [],ls=>some ls
  | (i, x) :: r, ls => match offs i, (ev x).cells with
    | some (off, sz), some new => match Nat.beq new.length sz, Nat.ble (off + sz) ls.length with
      | true,true=>buildV offs ev r (putL ls off new)
      | _,_=>none
    | _,_=>none
theorem fillV {ρ:Nat→Ph} {ev:Operand→VV} {a:Act} {offs:Nat→Option (Nat×Nat)}:∀(parts:List (Nat×Operand)) (ls:List VV) (cells:Array Value) {ls':List VV},
    Rs ρ ls cells.toList→(∀c∈cells.toList,c.oneCell'=true)→(∀p∈parts,(ev p.2).R ρ (a.eval p.2))→buildV offs ev parts ls=some ls'→
    ∃cells',Instr.fill offs cells (parts.map fun p=>(p.1,a.eval p.2))=some cells'∧Rs ρ ls' cells'.toList∧cells'.size=cells.size∧∀c∈cells'.toList,c.oneCell'=true
  | [], ls, cells, ls', h, h1, _, e => by
    simp only [buildV,Option.some.injEq] at e;subst e
    exact ⟨cells,rfl,h,rfl,h1⟩
  | (i, x) :: r, ls, cells, ls', h, h1, hp, e => by
    simp only [buildV] at e
    split at e
    · rename_i off sz new ho hn
      split at e
      · rename_i hs hle
        have hs:=Nat.eq_of_beq_eq_true hs
        have hle:=Nat.le_of_ble_eq_true hle
        obtain ⟨hx,hx1⟩:=cells_R (hp (i,x) (by simp)) hn
        have hlen:=hx.len
        have hlen2:=h.len
        simp only [Array.length_toList] at hlen hlen2
        have h2:(setRange cells off (a.eval x).cells.toList).toList=cells.toList.take off++((a.eval x).cells.toList++cells.toList.drop (off+new.length)):=by
          rw [setRange_toList _ _ _ (by simp;omega)]
          simp only [Array.length_toList]
          rw [hlen]
        have h3:Rs ρ (putL ls off new) (setRange cells off (a.eval x).cells.toList).toList:=by
          rw [h2];exact (h.take _).append (hx.append (h.drop _))
        have h4:∀c∈(setRange cells off (a.eval x).cells.toList).toList,c.oneCell'=true:=by
          rw [h2]
          intro c hc
          rcases List.mem_append.1 hc with hc|hc
          · exact h1 c (List.mem_of_mem_take hc)
          · rcases List.mem_append.1 hc with hc|hc
            · exact hx1 c hc
            · exact h1 c (List.mem_of_mem_drop hc)
        obtain ⟨cells',h5,h6,h7,h8⟩:=fillV r _ _ h3 h4 (fun p hp'=>hp p (by simp [hp'])) e
        refine ⟨cells',?_,h6,by rw [h7,setRange_size],h8⟩
        simp only [List.map_cons,Instr.fill,ho]
        have hc1:(a.eval x).cells.size=sz:=by omega
        have hc2:¬(off+sz > cells.size):=by omega
        have hf:Array.foldl (fun cs (x:Value×Nat)=>cs.setIfInBounds (off+x.2) x.1) cells (a.eval x).cells.zipIdx=setRange cells off (a.eval x).cells.toList:=by
          rw [←Array.foldl_toList,Array.toList_zipIdx]
          exact fill_foldl _ off 0 cells
        simp only [hc1,ne_eq,not_true_eq_false,decide_false,Bool.false_or,decide_eq_true_eq]
        rw [if_neg hc2,hf,h5]
      · cases e
    · cases e
theorem stepV_build {o:Oper} {T:TypeId} {parts:Array (Nat×Operand)} (ho:o.op= .build T parts) {ev:Operand→VV} (h:Nat→Option Blk) {ti:TyI} (ht:tyI P T=some ti) (hpo:partsOk ti.kind=true) {zs:List Value} (hz:ti.zero=some zs) (h1:zs.all (·.oneCell')=true)
    {ls:List VV} (hls:buildV (partOffs ti.kind) ev parts.toList (zs.map VV.s)=some ls) (nb:Nat):StepV P w0 ng o ev h nb nb (.agg ls) h (fun _=>False):=by
  refine stepV_val (fun c hc=>by rw [ho] at hc;cases hc) fun ρ w ac hw hops=>?_
  obtain ⟨i,d,hi,hu,_,_,_,h2⟩:=tyI_spec ht
  rw [hz] at h2
  cases hzero:i.zero with
  | none=>rw [hzero] at h2;cases h2
  | some z =>
    rw [hzero] at h2;simp only [Option.map_some,Option.some.injEq] at h2
    obtain ⟨cells',h3,h4,_,h4'⟩:=fillV (ρ:=ρ) (a:=ac) parts.toList (zs.map VV.s) z.cells (by rw [←h2];exact (Rs_s zs h1).1) (by rw [←h2];exact (Rs_s (ρ:=ρ) zs h1).2)
      (fun p hp=>hops p.2 (by rw [ho];simp only [Op.operands];simp only [List.mem_toArray,List.mem_map];exact ⟨p,by simpa using hp,rfl⟩)) hls
    refine ⟨.agg cells',?_,cells'.toList,by simp,h4,h4'⟩
    unfold execOp;rw [ho];dsimp only
    have hzr:(zeroValue T).run P w= .ok z w:=by simp [zeroValue,typeInfo,hi,hzero]
    have e1:(parts.map fun x=>(x.1,ac.eval x.2)).toList=parts.toList.map fun p=>(p.1,ac.eval p.2):=by simp
    unfold partsOk at hpo
    split at hpo
    · rename_i offs hk
      obtain ⟨fs,h5,h6⟩:=tyI_structs ht hk
      have hmap:(fs.mapM fun f=>(do pure (f.offset,←sizeOf f.type):Sem (Nat×Nat))).run P w= .ok (fs.map fun f=>(f.offset,P.cellsOf f.type)) w:=by
        rw [h6] at hpo
        simp only [List.all_map,List.all_eq_true,Function.comp] at hpo
        have gen:∀(l:List Field) (acc:Array (Nat×Nat)),(∀f∈l,0 < P.cellsOf f.type)→
            (l.foldlM (fun (bs:Array (Nat×Nat)) (f:Field)=>(do let b ←(do pure (f.offset,←sizeOf f.type):Sem (Nat×Nat));pure (bs.push b):Sem (Array (Nat×Nat)))) acc).run P w= .ok (acc++(l.map fun f=>(f.offset,P.cellsOf f.type)).toArray) w:=by
          intro l
          induction l with
          | nil=>intro acc _;simp
          | cons f l ih =>
            intro acc hl
            have:=sizeOf_run (P:=P) (t:=f.type) rfl (hl f (by simp)) w
            simp only [List.foldlM_cons,Sem.run_bind,this,Result.andThen_ok,Sem.run_pure]
            rw [ih _ (fun f' h'=>hl f' (by simp [h']))]
            simp
        rw [Array.mapM_eq_foldlM,←Array.foldlM_toList]
        have:=gen fs.toList #[] (fun f hf=>Nat.le_of_ble_eq_true (hpo f hf))
        refine Eq.trans ?_ (this.trans ?_)
        · rfl
        · congr 1;apply Array.ext';simp only [Array.toList_map,Array.empty_append,List.toList_toArray]
      simp only [Instr.build,Sem.run_bind,hzr,Result.andThen_ok,run_underlying h5,hmap]
      have hoff:(fun j=>(fs.map fun f=>(f.offset,P.cellsOf f.type))[j]?)=partOffs ti.kind:=by
        funext j
        rw [hk,h6]
        simp [partOffs]
        cases fs[j]? <;> rfl
      simp only [hoff,e1,h3,Sem.run_pure,Result.andThen_ok]
    · rename_i n e sz hk
      obtain ⟨h5,h6⟩:=tyI_array ht hk
      have hsz:=Nat.le_of_ble_eq_true hpo
      simp only [Instr.build,Sem.run_bind,hzr,Result.andThen_ok,run_underlying h5,sizeOf_run h6 hsz]
      have hoff:(fun i=>some (i*sz,sz))=partOffs ti.kind:=by rw [hk];rfl
      simp only [hoff,e1,h3,Sem.run_pure,Result.andThen_ok]
    · cases hpo
end
end Go.Vx
end
section
namespace Go.Vx
open Go.Ax
open Go.RowKit (Below)
section
variable {P:Program} {w0:World} {ng:Nat}
theorem ext_re {ρ:Nat→Ph} {b nb k s:Nat} (hnb:ρ nb= .fresh):Ext ρ (setP (setP ρ b .dead) nb (.live k s)):=by
  intro c
  by_cases e1:c=nb
  · subst e1;rw [hnb];exact ⟨fun _ _ h=>(by cases h),fun h=>(by cases h)⟩
  · by_cases e2:c=b
    · subst e2;simp [setP,e1]
    · simp only [setP,e1,e2,if_false];exact ⟨fun _ _ h=>.inl h,id⟩
theorem wr_re {ρ:Nat→Ph} {h:Nat→Option Blk} {w w':World} (x:WR w0 ng ρ h w) {b nb k s k2 s2:Nat} (hb:ρ b= .live k s) (hnb:ρ nb= .fresh) (hgb:ng≤b) (hng:ng≤nb)
    (hk2:(k2=k∧Wrote k w w')∨(k2=w.heap.size∧Below w.heap.size w w'∧w.heap.size < w'.heap.size)) {z:Blk} (hz:BlkR (setP (setP ρ b .dead) nb (.live k2 s2)) w' k2 s2 z) :
    WR w0 ng (setP (setP ρ b .dead) nb (.live k2 s2)) (setB (setB h b none) nb (some z)) w'∧Eff ρ w (setP (setP ρ b .dead) nb (.live k2 s2)) w' (fun c=>c=b∨c=nb):=by
  have hne:b≠nb:=fun e=>by rw [e,hnb] at hb;cases hb
  have he:=ext_re (b:=b) (k:=k2) (s:=s2) hnb
  have hk0:w0.heap.size≤k:=by
    rcases x.own b k s hb with ⟨h1,_⟩|⟨_,h1⟩
    · omega
    · exact h1
  have hkw:=x.lt b k s hb
  have hsz:w.heap.size≤w'.heap.size:=by
    rcases hk2 with ⟨_,hW⟩|⟨_,hB,_⟩
    · exact hW.size
    · exact hB.size
  have hblk:∀j,j < w.heap.size→j≠k→w'.heap[j]?=w.heap[j]?:=by
    rcases hk2 with ⟨_,hW⟩|⟨_,hB,_⟩
    · exact hW.block
    · exact fun j hj _=>hB.block j hj
  have hos:w'.os=w.os∧w'.tape=w.tape∧w'.output=w.output:=by
    rcases hk2 with ⟨_,hW⟩|⟨_,hB,_⟩
    · exact ⟨hW.os,hW.tape,hW.output⟩
    · exact ⟨hB.os,hB.tape,hB.output⟩
  have hlive:∀c k s',setP (setP ρ b .dead) nb (.live k2 s2) c= .live k s'→(c=nb∧k=k2)∨(c≠nb∧c≠b∧ρ c= .live k s'):=by
    intro c k s' hc
    by_cases e:c=nb
    · left;simp only [setP,e,if_true,Ph.live.injEq] at hc;exact ⟨e,hc.1.symm⟩
    · by_cases e':c=b
      · simp only [setP,e',if_false,if_true,hne] at hc;cases hc
      · right;simp only [setP,e,e',if_false] at hc;exact ⟨e,e',hc⟩
  have hkk:k2=k∨k2=w.heap.size:=by rcases hk2 with ⟨h,_⟩|⟨h,_⟩<;> simp [h]
  have hk2w:k2 < w'.heap.size:=by
    rcases hk2 with ⟨rfl,_⟩|⟨rfl,_,h⟩
    · omega
    · exact h
  refine ⟨⟨fun c y hc=>?_,fun c j s' hc=>?_,fun c j s' hc=>?_,fun c c' j s1 s2' hc hc'=>?_,⟨hos.1.trans x.below.os,hos.2.1.trans x.below.tape,hos.2.2.trans x.below.output,Nat.le_trans x.below.size hsz,fun j hj=>?_⟩,fun c hc=>?_⟩,he,fun c hc=>?_,fun j hj hm=>?_,fun c j s' h1 h2=>?_,hsz,hos.1,hos.2.1,hos.2.2⟩
  · by_cases e:c=nb
    · subst e
      simp only [setB,if_true,Option.some.injEq] at hc
      subst hc
      exact ⟨_,_,by simp [setP],hz⟩
    · by_cases e':c=b
      · subst e';simp only [setB,e,if_false,if_true] at hc;cases hc
      · simp only [setB,e,e',if_false] at hc
        obtain ⟨j,s',h1,h2⟩:=x.blk c y hc
        exact ⟨j,s',by simp [setP,e,e',h1],h2.keep he (hblk j (x.lt c j s' h1) fun ej=>e' (x.inj c b k s' s (ej ▸ h1) hb))⟩
  · rcases hlive c j s' hc with ⟨rfl,rfl⟩|⟨_,_,h1⟩
    · right;refine ⟨hng,?_⟩
      have:=x.below.size
      rcases hkk with h|h <;> omega
    · exact x.own c j s' h1
  · rcases hlive c j s' hc with ⟨rfl,rfl⟩|⟨_,_,h1⟩
    · exact hk2w
    · exact Nat.lt_of_lt_of_le (x.lt c j s' h1) hsz
  · have other:∀c j s',c≠b→ρ c= .live j s'→j≠k2:=by
      intro c j s' e h1 ej
      subst ej
      rcases hkk with h|h
      · exact e (x.inj c b k s' s (h ▸ h1) hb)
      · have:=x.lt c _ s' h1;omega
    rcases hlive c j s1 hc with ⟨e,h1⟩|⟨_,e1,h1⟩<;> rcases hlive c' j s2' hc' with ⟨e',h2⟩|⟨_,e2,h2⟩
    · rw [e,e']
    · exact absurd h1 (other c' j s2' e2 h2)
    · exact absurd h2 (other c j s1 e1 h1)
    · exact x.inj c c' j s1 s2' h1 h2
  · have:=x.below.size
    exact (hblk j (by omega) (by omega)).trans (x.below.block j hj)
  · obtain ⟨s',hs⟩:=x.glob c hc
    have h1:c≠nb:=by omega
    have h2:c≠b:=by omega
    exact ⟨s',by simp [setP,h1,h2,hs]⟩
  · have h1:c≠nb:=fun e=>hc (.inr e)
    have h2:c≠b:=fun e=>hc (.inl e)
    simp [setP,h1,h2]
  · exact hblk j hj fun ej=>hm b s (.inl rfl) (ej ▸ hb)
  · rcases hlive c j s' h2 with ⟨_,rfl⟩|⟨_,_,h3⟩
    · rcases hkk with h|h
      · exact .inr ⟨b,s,.inl rfl,h ▸ hb⟩
      · exact .inl (Nat.le_of_eq h.symm)
    · exact absurd h3 h1
theorem app_cells {ρ:Nat→Ph} {xs ys:List VV} {olds news:List Value} {zc:Array Value} (hx:Rs ρ xs olds) (hx1:∀c∈olds,c.oneCell'=true) (hy:Rs ρ ys news) (hy1:∀c∈news,c.oneCell'=true) (j:Nat) (x:VV) (hj:(xs++ys)[j]?=some x) :
    ∃v,(olds.toArray++news.toArray++zc)[j]?=some v∧x.R ρ v∧v.oneCell'=true:=by
  obtain ⟨v,g1,g2⟩:=(hx.append hy).get hj
  refine ⟨v,?_,g2,?_⟩
  · have hlt:j < (olds.toArray++news.toArray).size:=by have:=(List.getElem?_eq_some_iff.1 g1).1;simpa using this
    rw [Array.getElem?_append_left hlt]
    simpa using g1
  · rcases List.mem_append.1 (List.mem_of_getElem? g1) with h|h
    · exact hx1 v h
    · exact hy1 v h
theorem stepV_app {o:Oper} {x y:Operand} {T:TypeId} (ho:o.op= .call { callee:=.builtin .append,args:=#[x,y],argTypes:=#[T,T] }) {ev:Operand→VV} {h:Nat→Option Blk} {ti te:TyI} (ht:tyI P T=some ti) {e sz:Nat} (hk:ti.kind= .slice e sz) (hsz:0 < sz)
    (hte:tyI P e=some te) {zs:List Value} (hz:te.zero=some zs) (hzl:zs.length=sz) {b n c:Nat} (hx:ev x= .sl b 0 sz n c) (hgb:ng≤b) {xs:List VV} (hxs:loadC h b 0 (n*sz)=some xs)
    {b2 o2 m c2:Nat} (hy:ev y= .sl b2 o2 sz m c2) {ys:List VV} (hys:loadC h b2 o2 (m*sz)=some ys) (hm:0 < m) (h63:n+m≤4294967296) (hbytes:(n+m)*te.bytes≤140737488355328) {nb:Nat} (hng:ng≤nb) :
    StepV P w0 ng o ev h nb (nb+1) (.sl nb 0 sz (n+m) (n+m)) (setB (setB h b none) nb (some (.cells (xs++ys)))) (fun c=>c=b∨c=nb):=by
  intro n' ro ρ w a K Q hw hops hf hK
  have hp:=hops x (by rw [ho];simp [Op.operands,Call.operands])
  have hq:=hops y (by rw [ho];simp [Op.operands,Call.operands])
  have hnb:=hf nb (Nat.le_refl _) (Nat.lt_succ_self _)
  obtain ⟨k,s,olds,g1,g2,g3,g4,g5⟩:=loadC_range hw hxs
  obtain ⟨k',s',news,q1,q2,q3,q4,q5⟩:=loadC_range hw hys
  rw [hx] at hp;rw [hy] at hq
  obtain ⟨_,hp⟩:=hp
  obtain ⟨_,hq⟩:=hq
  rw [g1] at hp;rw [q1] at hq
  obtain ⟨C,hc1,hc2,hc3,hp⟩:=hp
  obtain ⟨C',_,_,_,hq⟩:=hq
  obtain ⟨hT,hcell⟩:=tyI_slice ht hk
  obtain ⟨ie,de,hie,hde,his,hib,_,hiz⟩:=tyI_spec hte
  obtain ⟨ie',hie',hse⟩:=cellsOf_info (P:=P) (t:=e) (by omega)
  rw [hie] at hie';cases hie'
  have hsize:ie.size=sz:=by rw [hse,hcell]
  rw [hz] at hiz
  obtain ⟨z,hzv,hzc⟩:∃z,ie.zero=some z∧z.cells.toList=zs:=by
    cases h:ie.zero with
    | none=>rw [h] at hiz;cases hiz
    | some z=>rw [h] at hiz;simp at hiz;exact ⟨z,rfl,hiz.symm⟩
  have hzs:z.cells.size=sz:=by rw [←hzl,←hzc];simp
  have hnews':∀j u,news[j]?=some u→w.cell? ((⟨k',o2,none⟩:Addr).add j)=some u:=fun j u hu=>by rw [Addr.add_mid];exact q3 j u hu
  have holds':∀j u,olds[j]?=some u→w.cell? ((⟨k,0,none⟩:Addr).add j)=some u:=fun j u hu=>by rw [Addr.add_mid];exact g3 j u hu
  have run:∀{v':Value} {w':World},(Builtin.append_ #[T,T] o.type #[a.eval x,a.eval y]).run P w= .ok v' w'→(execOp a.eval o).run P w= .ok (.value v') w':=by
    intro v' w' hr
    unfold execOp;rw [ho]
    simp only [resolve,invoke,builtin,List.map_toArray,List.map_cons,List.map_nil,Sem.run_bind,Sem.run_pure,Result.andThen_ok,hr]
  have hd:∀c,o.op≠.defer c:=fun c hc=>by rw [ho] at hc;cases hc
  obtain ⟨kb,sb,g1',hB⟩:=hw.blk b (match h b with|some z=>z|none=>.dfr) (by
    unfold loadC at hxs;split at hxs
    · rename_i cs hb;rw [hb]
    · cases hxs)
  rw [g1] at g1';cases g1'
  obtain ⟨cs,hb⟩:∃cs,h b=some (.cells cs):=by
    unfold loadC at hxs;split at hxs
    · rename_i cs hb;exact ⟨cs,hb⟩
    · cases hxs
  rw [hb] at hB
  obtain ⟨cur,Tb,d1,d2,d3,d4⟩:=hB
  by_cases hroom:n+m≤C
  · -- in its place
    have hfit:(n+m)*sz≤cur.size:=by have:=Nat.mul_le_mul_right sz hroom;omega
    have hr:=run_append_room_cells (P:=P) w T o.type e ie hT hie k 0 n C ⟨k',o2,none⟩ m C' news (by rw [hsize];exact q2) hnews' q5 hroom
      (fun j hj=>by
        rw [cell_of_row w k _ cur Tb (0,0) d1,hsize]
        have:0+n*sz+j < cur.size:=by rw [Nat.add_mul] at hfit;omega
        rw [Array.getElem?_eq_getElem this];rfl) (fun j hj=>frozen_of_row w k _ cur Tb d1)
    rw [hsize,Nat.zero_add] at hr
    rw [←hp,←hq] at hr
    have hr:=run hr
    have hW:=wrote_setCells news w k (n*sz)
    obtain ⟨t1,t2⟩:=wr_re hw g1 hnb hgb hng (k2:=k) (s2:=s) (.inl ⟨rfl,hW⟩) (z:=.cells (xs++ys)) (by
      have hext:=ext_re (b:=b) (k:=k) (s:=s) hnb
      have hlx:=g4.len
      have hly:=q4.len
      refine ⟨_,Tb,heap_setCells_same _ d1 _,by rw [setRange_size];exact d2,by rw [List.length_append,←hlx,←hly,g2,q2,←Nat.add_mul];omega,fun j x hj=>?_⟩
      obtain ⟨v,f1,f2⟩:=(g4.append q4).get hj
      have f3:v.oneCell'=true:=by
        rcases List.mem_append.1 (List.mem_of_getElem? f1) with h|h
        · exact g5 v h
        · exact q5 v h
      refine ⟨v,?_,f2.ext hext,f3⟩
      have hjl:j < (olds++news).length:=(List.getElem?_eq_some_iff.1 f1).1
      rw [List.length_append,g2,q2] at hjl
      rw [setRange_get]
      by_cases h1:j < n*sz
      · rw [if_neg (by omega)]
        rw [List.getElem?_append_left (by omega)] at f1
        have:=g3 j v f1
        rw [Nat.zero_add,cell_of_row w k _ cur Tb (0,0) d1] at this
        exact this
      · rw [List.getElem?_append_right (by omega),g2] at f1
        rw [if_pos ⟨by omega,by omega,by rw [Nat.add_mul] at hfit;omega⟩]
        exact f1)
    refine wpIn_val hd hr (hK _ _ _ ⟨rfl,?_⟩ t1 t2)
    simp only [setP,if_true]
    exact ⟨C,hroom,hroom,hc3,rfl⟩
  · -- a new block
    have hr:=run_append_grow (P:=P) w T o.type e ie z hT hie hzv ⟨k,0,none⟩ n C olds (by rw [hsize];exact g2) holds' ⟨k',o2,none⟩ m C' news (by rw [hsize];exact q2) hnews' (by omega) (by omega) (growslice_fits (by omega) (by rw [hib];exact hbytes))
    rw [←hp,←hq] at hr
    have hr:=run hr
    have hge:=grownCap_ge w (n+m) C e
    have hB:Below w.heap.size w (w.drew.alloc (.cells (olds.toArray++news.toArray++Builtin.zeroCells z.cells (grownCap w (n+m) C e - (n+m))) e)):=⟨rfl,rfl,rfl,by simp,fun k hk=>heap_alloc_old w.drew _ hk⟩
    have hszz:(olds.toArray++news.toArray++Builtin.zeroCells z.cells (grownCap w (n+m) C e - (n+m))).size=grownCap w (n+m) C e*sz:=by
      simp only [Array.size_append,List.size_toArray,size_zeroCells,hzs,g2,q2,←Nat.add_mul]
      congr 1;omega
    have hlx:=g4.len
    have hly:=q4.len
    obtain ⟨t1,t2⟩:=wr_re hw g1 hnb hgb hng (k2:=w.heap.size) (s2:=grownCap w (n+m) C e*sz) (.inr ⟨rfl,hB,by simp⟩) (z:=.cells (xs++ys)) (by
      have hext:=ext_re (b:=b) (k:=w.heap.size) (s:=grownCap w (n+m) C e*sz) hnb
      refine ⟨_,e,heap_alloc_new w.drew _,hszz,?_,fun j x hj=>?_⟩
      · rw [List.length_append,←hlx,←hly,g2,q2,←Nat.add_mul];exact Nat.mul_le_mul_right _ hge
      · obtain ⟨v,f1,f2,f3⟩:=app_cells (zc:=Builtin.zeroCells z.cells (grownCap w (n+m) C e - (n+m))) g4 g5 q4 q5 j x hj
        exact ⟨v,f1,f2.ext hext,f3⟩)
    refine wpIn_val hd hr (hK _ _ _ ⟨rfl,?_⟩ t1 t2)
    simp only [setP,if_true]
    exact ⟨_,hge,hge,by omega,rfl⟩
end
end Go.Vx
end
section
namespace Go.Vx
open Go.Ax
open Go.RowKit (Below)
section
variable {P:Program} {w0:World} {ng:Nat}
theorem elem_zero {e:TypeId} {sz:Nat} {te:TyI} (hte:tyI P e=some te) (hc:P.cellsOf e=sz) (hsz:0 < sz) {zs:List Value} (hz:te.zero=some zs) :
    ∃ie z,P.info? e=some ie∧ie.size=sz∧ie.bytes=te.bytes∧ie.zero=some z∧z.cells.toList=zs:=by
  obtain ⟨ie,de,hie,hde,his,hib,_,hiz⟩:=tyI_spec hte
  obtain ⟨ie',hie',hse⟩:=cellsOf_info (P:=P) (t:=e) (by omega)
  rw [hie] at hie';cases hie'
  rw [hz] at hiz
  cases h:ie.zero with
  | none=>rw [h] at hiz;cases hiz
  | some z=>rw [h] at hiz;simp at hiz;exact ⟨ie,z,hie,by rw [hse,hc],hib,h,hiz.symm⟩
theorem stepV_app0 {o:Oper} {x y:Operand} {T:TypeId} (ho:o.op= .call { callee:=.builtin .append,args:=#[x,y],argTypes:=#[T,T] }) {ev:Operand→VV} {h:Nat→Option Blk} {ti te:TyI} (ht:tyI P T=some ti) {e sz:Nat} (hk:ti.kind= .slice e sz) (hsz:0 < sz)
    (hte:tyI P e=some te) {zs:List Value} (hz:te.zero=some zs) (hzl:zs.length=sz) (hx:ev x= .s (.slice none 0 0)∨∃b off z,ev x= .z0 b off∧h b=some z)
    {b2 o2 m c2:Nat} (hy:ev y= .sl b2 o2 sz m c2) {ys:List VV} (hys:loadC h b2 o2 (m*sz)=some ys) (hm:0 < m) (h63:m≤4294967296) (hbytes:m*te.bytes≤140737488355328) {nb:Nat} (hng:ng≤nb) :
    StepV P w0 ng o ev h nb (nb+1) (.sl nb 0 sz m m) (setB h nb (some (.cells ys))) (fun c=>c=nb):=by
  intro n' ro ρ w a K Q hw hops hf hK
  have hp:=hops x (by rw [ho];simp [Op.operands,Call.operands])
  have hq:=hops y (by rw [ho];simp [Op.operands,Call.operands])
  have hnb:=hf nb (Nat.le_refl _) (Nat.lt_succ_self _)
  obtain ⟨k',s',news,q1,q2,q3,q4,q5⟩:=loadC_range hw hys
  rw [hy] at hq
  obtain ⟨_,hq⟩:=hq
  rw [q1] at hq
  obtain ⟨C',_,_,_,hq⟩:=hq
  obtain ⟨hT,hcell⟩:=tyI_slice ht hk
  obtain ⟨ie,z,hie,hsize,hib,hzv,hzc⟩:=elem_zero hte hcell hsz hz
  have hzs:z.cells.size=sz:=by rw [←hzl,←hzc];simp
  have hnews':∀j u,news[j]?=some u→w.cell? ((⟨k',o2,none⟩:Addr).add j)=some u:=fun j u hu=>by rw [Addr.add_mid];exact q3 j u hu
  have hd:∀c,o.op≠.defer c:=fun c hc=>by rw [ho] at hc;cases hc
  have hge:=grownCap_ge w m 0 e
  have hly:=q4.len
  have hr:(Builtin.append_ #[T,T] o.type #[a.eval x,a.eval y]).run P w= .ok (.slice (some ⟨w.heap.size,0,none⟩) m (grownCap w m 0 e)) (w.drew.alloc (.cells (news.toArray++Builtin.zeroCells z.cells (grownCap w m 0 e - m)) e)):=by
    rcases hx with hx|⟨b,off,zb,hx,hb⟩
    · rw [hx] at hp
      rw [hp.1,hq]
      exact run_append_nil w T o.type e ie z hT hie hzv ⟨k',o2,none⟩ m C' news (by rw [hsize];exact q2) hnews' hm (by omega) (by rw [hib];omega)
    · obtain ⟨k,s,g1,_⟩:=hw.blk b _ hb
      rw [hx] at hp
      obtain ⟨_,hp⟩:=hp
      rw [g1] at hp
      have:=run_append_grow (P:=P) w T o.type e ie z hT hie hzv ⟨k,off,none⟩ 0 0 [] (by simp) (fun j u hu=>by simp at hu) ⟨k',o2,none⟩ m C' news (by rw [hsize];exact q2) hnews' (by omega) (by omega) (growslice_fits (by omega) (by rw [hib,Nat.zero_add];omega))
      simp only [Nat.zero_add,Array.empty_append] at this
      rw [hp,hq]
      exact this
  have hrun:(execOp a.eval o).run P w= .ok (.value (.slice (some ⟨w.heap.size,0,none⟩) m (grownCap w m 0 e))) (w.drew.alloc (.cells (news.toArray++Builtin.zeroCells z.cells (grownCap w m 0 e - m)) e)):=by
    unfold execOp;rw [ho]
    simp only [resolve,invoke,builtin,List.map_toArray,List.map_cons,List.map_nil,Sem.run_bind,Sem.run_pure,Result.andThen_ok,hr]
  have hB:Below w.heap.size w (w.drew.alloc (.cells (news.toArray++Builtin.zeroCells z.cells (grownCap w m 0 e - m)) e)):=⟨rfl,rfl,rfl,by simp,fun k hk=>heap_alloc_old w.drew _ hk⟩
  have hszz:(news.toArray++Builtin.zeroCells z.cells (grownCap w m 0 e - m)).size=grownCap w m 0 e*sz:=by
    simp only [Array.size_append,List.size_toArray,size_zeroCells,hzs,q2,←Nat.add_mul]
    congr 1;omega
  obtain ⟨t1,t2⟩:=wr_new hw hnb hng hB (by simp) (z:=.cells ys) (s:=grownCap w m 0 e*sz) (by
    refine ⟨_,e,heap_alloc_new w.drew _,hszz,by rw [←hly,q2];exact Nat.mul_le_mul_right _ hge,fun j x hj=>?_⟩
    obtain ⟨v,f1,f2,f3⟩:=app_cells (xs:=[]) (olds:=[]) (zc:=Builtin.zeroCells z.cells (grownCap w m 0 e - m)) (by exact rfl) (by simp) q4 q5 j x (by simpa using hj)
    exact ⟨v,by simpa using f1,f2.ext (ext_new hnb),f3⟩)
  refine wpIn_val hd hrun (hK _ _ _ ⟨rfl,?_⟩ t1 t2)
  simp only [setP,if_true]
  exact ⟨_,hge,hge,by omega,rfl⟩
theorem stepV_appNo {o:Oper} {x y:Operand} {T:TypeId} (ho:o.op= .call { callee:=.builtin .append,args:=#[x,y],argTypes:=#[T,T] }) {ev:Operand→VV} {h:Nat→Option Blk} {ti:TyI} (ht:tyI P T=some ti) {e sz:Nat} (hk:ti.kind= .slice e sz) (hsz:0 < sz)
    (hx:ev x= .s (.slice none 0 0)) (hy:ev y= .s (.slice none 0 0)) (nb:Nat) :
    StepV P w0 ng o ev h nb nb (.s (.slice none 0 0)) h (fun _=>False):=by
  refine stepV_val (fun c hc=>by rw [ho] at hc;cases hc) fun ρ w a hw hops=>⟨.slice none 0 0,?_,rfl,rfl⟩
  have hp:=hops x (by rw [ho];simp [Op.operands,Call.operands])
  have hq:=hops y (by rw [ho];simp [Op.operands,Call.operands])
  rw [hx] at hp;rw [hy] at hq
  obtain ⟨hT,hcell⟩:=tyI_slice ht hk
  unfold execOp;rw [ho]
  simp [resolve,invoke,builtin,Builtin.append_,hp.1,hq.1,run_underlying hT,sizeOf_run hcell hsz,Builtin.lenOf,Builtin.firstCells]
theorem stepV_make {o:Oper} {T:TypeId} {x y:Operand} (ho:o.op= .makeSlice T x y) {ev:Operand→VV} {kl kc:IntKind} {l c:Int} (hx:ev x= .s (.int kl l)) (hy:ev y= .s (.int kc c)) (h:Nat→Option Blk)
    {ti te:TyI} (ht:tyI P T=some ti) {e sz:Nat} (hk:ti.kind= .slice e sz) (hsz:0 < sz) (hte:tyI P e=some te) {zs:List Value} (hz:te.zero=some zs) (h1:zs.all (·.oneCell')=true) (hzl:zs.length=sz)
    (hp:0≤l∧l≤c∧(te.bytes:Int)*c≤281474976710656∧c≤9223372036854775807) {nb:Nat} (hng:ng≤nb) :
    StepV P w0 ng o ev h nb (nb+1) (.sl nb 0 sz l.toNat c.toNat) (setB h nb (some (.cells ((List.replicate c.toNat (zs.map VV.s)).flatten)))) (fun b=>b=nb):=by
  intro n' ro ρ w a K Q hw hops hf hK
  have g1:=evInt hx (hops x (by rw [ho];simp [Op.operands]))
  have g2:=evInt hy (hops y (by rw [ho];simp [Op.operands]))
  have hnb:=hf nb (Nat.le_refl _) (Nat.lt_succ_self _)
  obtain ⟨hu,hc⟩:=tyI_slice ht hk
  obtain ⟨ie,z,hie,hsize,hib,hzv,hzc⟩:=elem_zero hte hc hsz hz
  have hrun:=run_make (P:=P) w T e ie z hu hie hzv kl kc l c hp.1 hp.2.1 (by rw [hib];exact hp.2.2.1) hp.2.2.2
  have hzs:z.cells.size=sz:=by rw [←hzl,←hzc];simp
  have hd:∀c,o.op≠.defer c:=fun c hc=>by rw [ho] at hc;cases hc
  have hlen:((List.replicate c.toNat (zs.map VV.s)).flatten).length=c.toNat*sz:=by simp [hzl]
  obtain ⟨t1,t2⟩:=wr_new hw hnb hng (below_alloc w (.cells (madeCells z.cells (c.toNat*ie.size)) e)) (heap_alloc_lt _ _) (z:=.cells ((List.replicate c.toNat (zs.map VV.s)).flatten)) (s:=c.toNat*sz) (by
    refine ⟨_,e,heap_alloc_last _ _,by rw [size_madeCells,hsize],by rw [hlen];exact Nat.le_refl _,fun j x hj=>?_⟩
    have hjl:j < c.toNat*sz:=by have:=(List.getElem?_eq_some_iff.1 hj).1;omega
    have hjs:j%sz < sz:=Nat.mod_lt _ hsz
    have hjd:j / sz < c.toNat:=by rw [Nat.div_lt_iff_lt_mul hsz];exact hjl
    have hj0:j / sz*sz+j%sz=j:=by rw [Nat.mul_comm];exact Nat.div_add_mod j sz
    have e1:(madeCells z.cells (c.toNat*ie.size))[j]?=z.cells[j%sz]?:=by
      have:=madeCells_get (z:=z.cells) (sz:=sz) (m:=c.toNat) hzs hjd hjs
      rw [hsize];rwa [hj0] at this
    have e2:((List.replicate c.toNat (zs.map VV.s)).flatten)[j]?=(zs.map VV.s)[j%sz]?:=by
      have gen:∀(l:List VV) (m i d:Nat),l.length=sz→i < m→d < sz→((List.replicate m l).flatten)[i*sz+d]?=l[d]?:=by
        intro l m
        induction m with
        | zero=>intro i d _ h _;omega
        | succ m ih =>
          intro i d hl hi hd
          rw [List.replicate_succ,List.flatten_cons]
          cases i with
          | zero=>rw [Nat.zero_mul,Nat.zero_add,List.getElem?_append_left (by omega)]
          | succ i=>rw [List.getElem?_append_right (by rw [Nat.add_mul];omega),show (i+1)*sz+d - l.length=i*sz+d by rw [Nat.add_mul,hl];omega];exact ih i d hl (by omega) hd
      have:=gen (zs.map VV.s) c.toNat (j / sz) (j%sz) (by simp [hzl]) hjd hjs
      rwa [hj0] at this
    rw [e2,List.getElem?_map] at hj
    have hlt:j%sz < zs.length:=by omega
    rw [List.getElem?_eq_getElem hlt] at hj
    cases hj
    refine ⟨zs[j%sz],?_,⟨rfl,?_⟩,?_⟩
    · rw [e1,←Array.getElem?_toList,hzc,List.getElem?_eq_getElem hlt]
    · exact List.all_eq_true.1 h1 _ (List.getElem_mem hlt)
    · exact List.all_eq_true.1 h1 _ (List.getElem_mem hlt))
  refine wpIn_val (v:=.slice (some ⟨w.heap.size,0,none⟩) l.toNat c.toNat) hd ?_ (hK _ _ _ ⟨rfl,?_⟩ t1 t2)
  · unfold execOp
    rw [ho];dsimp only
    rw [g1,g2]
    simp only [Sem.run_bind,hrun,Result.andThen_ok,Sem.run_pure]
  · simp only [setP,if_true]
    exact ⟨c.toNat,Nat.le_refl _,by omega,by omega,rfl⟩
def optI (ev:Operand→VV):Option Operand→Option (Option Int)
  | none=>some none
  | some x => match ev x with
    | .s (.int _ i)=>some (some i)
    | _=>none
theorem optI_eval {ρ:Nat→Ph} {ev:Operand→VV} {a:Act} {x:Option Operand} {r:Option Int} (h:optI ev x=some r) (hv:∀y,x=some y→(ev y).R ρ (a.eval y)) :
    (x=none∧r=none)∨∃y k i,x=some y∧r=some i∧a.eval y= .int k i:=by
  cases x with
  | none=>cases h;exact .inl ⟨rfl,rfl⟩
  | some y =>
    simp only [optI] at h
    split at h
    · rename_i k i he
      cases h
      exact .inr ⟨y,k,i,rfl,rfl,evInt he (hv y rfl)⟩
    · cases h
theorem run_boundsV {b:Bool} {len cap:Nat} {ρ:Nat→Ph} {ev:Operand→VV} {w:World} {a:Act} {lo hi:Option Operand} {l h:Option Int} (hl:optI ev lo=some l) (hh:optI ev hi=some h)
    (hvl:∀y,lo=some y→(ev y).R ρ (a.eval y)) (hvh:∀y,hi=some y→(ev y).R ρ (a.eval y)) (h0:0≤l.getD 0) (h1:l.getD 0≤h.getD len) (h2:h.getD len≤cap) :
    (Instr.sliceBounds b len cap (lo.map a.eval) (hi.map a.eval) none).run P w= .ok ((l.getD 0).toNat,(h.getD len).toNat,cap) w:=by
  have e2:(0:Int)≤h.getD len:=by omega
  rcases optI_eval hl hvl with ⟨rfl,rfl⟩|⟨y,k,i,rfl,rfl,hy⟩<;> rcases optI_eval hh hvh with ⟨rfl,rfl⟩|⟨z,k',i',rfl,rfl,hz⟩
  · simp [Instr.sliceBounds]
  · simp only [Option.getD_some] at h2 e2
    simp [Instr.sliceBounds,Instr.sliceBound,asIntOf,hz,e2,h2]
  · simp only [Option.getD_some,Option.getD_none] at h0 h1 h2
    simp [Instr.sliceBounds,Instr.sliceBound,asIntOf,hy,h0,h1]
  · simp only [Option.getD_some] at h0 h1 h2 e2
    have e3:i≤max i' 0:=by omega
    simp [Instr.sliceBounds,Instr.sliceBound,asIntOf,hy,hz,h0,e2,h2,e3]
theorem stepV_sliceStr {o:Oper} {T:TypeId} {x:Operand} {lo hi:Option Operand} (ho:o.op= .slice T x lo hi none) {ev:Operand→VV} {s:ByteArray} (hx:ev x= .s (.string s)) (H:Nat→Option Blk) {ti:TyI} (ht:tyI P T=some ti) (hk:ti.kind= .string)
    {l h:Option Int} (hl:optI ev lo=some l) (hh:optI ev hi=some h) (h0:0≤l.getD 0) (h1:l.getD 0≤h.getD s.size) (h2:h.getD s.size≤s.size) (nb:Nat) :
    StepV P w0 ng o ev H nb nb (.s (.string (s.extract (l.getD 0).toNat (h.getD s.size).toNat))) H (fun _=>False):=by
  refine stepV_val (fun c hc=>by rw [ho] at hc;cases hc) fun ρ w ac hw hops=>⟨_,?_,rfl,rfl⟩
  have g1:=hops x (by rw [ho];simp [Op.operands])
  rw [hx] at g1
  obtain ⟨g1,_⟩:=g1
  unfold execOp;rw [ho];dsimp only
  rw [g1]
  have hb:=run_boundsV (P:=P) (b:=false) (len:=s.size) (cap:=s.size) hl hh (w:=w) (a:=ac) (fun y hy=>hops y (by rw [ho];subst hy;simp [Op.operands])) (fun y hy=>hops y (by rw [ho];subst hy;simp [Op.operands])) h0 h1 h2
  simp [Instr.sliceAt,Instr.slice,run_underlying (tyI_string ht hk),hb]
theorem stepV_sliceSl {o:Oper} {T:TypeId} {x:Operand} {lo hi:Option Operand} (ho:o.op= .slice T x lo hi none) {ev:Operand→VV} {b off sz n c:Nat} (hx:ev x= .sl b off sz n c) {H:Nat→Option Blk} {z:Blk} (hb:H b=some z) {ti:TyI} (ht:tyI P T=some ti) {e:Nat} (hk:ti.kind= .slice e sz) (hs:0 < sz)
    {l h:Option Int} (hl:optI ev lo=some l) (hh:optI ev hi=some h) (h0:0≤l.getD 0) (h1:l.getD 0≤h.getD n) (h2:h.getD n≤c) (h3:l.getD 0=0∨l.getD 0 < c) (nb:Nat) :
    StepV P w0 ng o ev H nb nb (.sl b (off+(l.getD 0).toNat*sz) sz ((h.getD n).toNat - (l.getD 0).toNat) (c - (l.getD 0).toNat)) H (fun _=>False):=by
  refine stepV_val (fun c hc=>by rw [ho] at hc;cases hc) fun ρ w ac hw hops=>?_
  have g1:=hops x (by rw [ho];simp [Op.operands])
  obtain ⟨k,s,q1,_⟩:=hw.blk b _ hb
  rw [hx] at g1
  obtain ⟨_,g1⟩:=g1
  rw [q1] at g1
  obtain ⟨C,c1,c2,c3,g1⟩:=g1
  obtain ⟨hu,hc⟩:=tyI_slice ht hk
  have hbd:(Instr.sliceBounds true n C (lo.map ac.eval) (hi.map ac.eval) none).run P w= .ok ((l.getD 0).toNat,(h.getD n).toNat,C) w:=
    run_boundsV (P:=P) hl hh (w:=w) (a:=ac) (fun y hy=>hops y (by rw [ho];subst hy;simp [Op.operands])) (fun y hy=>hops y (by rw [ho];subst hy;simp [Op.operands])) h0 h1 (by omega)
  refine ⟨.slice (some ⟨k,off+(l.getD 0).toNat*sz,none⟩) ((h.getD n).toNat - (l.getD 0).toNat) (C - (l.getD 0).toNat),?_,rfl,?_⟩
  · unfold execOp;rw [ho];dsimp only
    rw [g1]
    simp only [Instr.sliceAt,Instr.slice,Sem.run_bind,run_underlying hu,Result.andThen_ok,Option.map_none,hbd,sizeOf_run hc hs,Sem.run_pure,Option.map_some,Addr.add_mid]
    rcases h3 with h3|h3
    · rw [h3];simp
    · have:C≠(l.getD 0).toNat:=by omega
      simp only [if_neg this]
  · rw [q1]
    refine ⟨C - (l.getD 0).toNat,by omega,by omega,?_,rfl⟩
    have:(l.getD 0).toNat≤C:=by omega
    have:(l.getD 0).toNat*sz≤C*sz:=Nat.mul_le_mul_right _ this
    rw [Nat.sub_mul];omega
theorem stepV_slice00 {o:Oper} {T:TypeId} {x u v:Operand} (ho:o.op= .slice T x none (some u) (some v)) {ev:Operand→VV} {ku kv:IntKind} (hu0:ev u= .s (.int ku 0)) (hv0:ev v= .s (.int kv 0)) {b off sz n c:Nat} (hx:ev x= .sl b off sz n c) {H:Nat→Option Blk} {z:Blk} (hb:H b=some z)
    {ti:TyI} (ht:tyI P T=some ti) {e:Nat} (hk:ti.kind= .slice e sz) (hs:0 < sz) (nb:Nat):StepV P w0 ng o ev H nb nb (.z0 b off) H (fun _=>False):=by
  refine stepV_val (fun c hc=>by rw [ho] at hc;cases hc) fun ρ w ac hw hops=>?_
  have g1:=hops x (by rw [ho];simp [Op.operands])
  have g2:=evInt hu0 (hops u (by rw [ho];simp [Op.operands]))
  have g3:=evInt hv0 (hops v (by rw [ho];simp [Op.operands]))
  obtain ⟨k,s,q1,_⟩:=hw.blk b _ hb
  rw [hx] at g1
  obtain ⟨_,g1⟩:=g1
  rw [q1] at g1
  obtain ⟨C,c1,c2,c3,g1⟩:=g1
  obtain ⟨hu,hc⟩:=tyI_slice ht hk
  refine ⟨.slice (some ⟨k,off,none⟩) 0 0,?_,rfl,by rw [q1]⟩
  unfold execOp;rw [ho];dsimp only
  rw [g1]
  simp [Instr.sliceAt,Instr.slice,run_underlying hu,Instr.sliceBounds,Instr.sliceBound,asIntOf,g2,g3,sizeOf_run hc hs]
theorem stepV_slice00n {o:Oper} {T:TypeId} {x u v:Operand} (ho:o.op= .slice T x none (some u) (some v)) {ev:Operand→VV} {ku kv:IntKind} (hu0:ev u= .s (.int ku 0)) (hv0:ev v= .s (.int kv 0)) (hx:ev x= .s (.slice none 0 0)) (H:Nat→Option Blk)
    {ti:TyI} (ht:tyI P T=some ti) {e sz:Nat} (hk:ti.kind= .slice e sz) (hs:0 < sz) (nb:Nat):StepV P w0 ng o ev H nb nb (.s (.slice none 0 0)) H (fun _=>False):=by
  refine stepV_val (fun c hc=>by rw [ho] at hc;cases hc) fun ρ w ac hw hops=>⟨.slice none 0 0,?_,rfl,rfl⟩
  have g1:=hops x (by rw [ho];simp [Op.operands])
  have g2:=evInt hu0 (hops u (by rw [ho];simp [Op.operands]))
  have g3:=evInt hv0 (hops v (by rw [ho];simp [Op.operands]))
  rw [hx] at g1
  obtain ⟨g1,_⟩:=g1
  obtain ⟨hu,hc⟩:=tyI_slice ht hk
  unfold execOp;rw [ho];dsimp only
  rw [g1]
  simp [Instr.sliceAt,Instr.slice,run_underlying hu,Instr.sliceBounds,Instr.sliceBound,asIntOf,g2,g3,sizeOf_run hc hs]
theorem stepV_nilCheck {o:Oper} {x:Operand} (ho:o.op= .nilCheck x) {ev:Operand→VV} {b off:Nat} (hx:ev x= .p b off) {h:Nat→Option Blk} {z:Blk} (hb:h b=some z) (nb:Nat):StepV P w0 ng o ev h nb nb (.p b off) h (fun _=>False):=by
  refine stepV_val (fun c hc=>by rw [ho] at hc;cases hc) fun ρ w ac hw hops=>?_
  have g1:=hops x (by rw [ho];simp [Op.operands])
  obtain ⟨k,s,q1,_⟩:=hw.blk b _ hb
  rw [hx] at g1
  obtain ⟨_,g1⟩:=g1
  rw [q1] at g1
  dsimp only at g1
  refine ⟨.pointer (some ⟨k,off,none⟩),?_,rfl,by rw [q1]⟩
  unfold execOp;rw [ho];dsimp only
  rw [g1];rfl
end
end Go.Vx
end
