/- Lemmas on the program and its library, part Ax4. -/
import Derived.Test.YtalgbhjnbgkneaaGreatDoorZAx1
set_option linter.unusedVariables false
set_option linter.unusedSimpArgs false
section
namespace Go.Ax
open Go.RowKit (Below)
def wantedA (ops:Array Oper) (o:Oper) (t:Nat→AV) (r:Bool):Prop:=
  match o.guard with
  | none=>r=true
  | some (j,want)=>∃d b,(ops[j]?).bind (·.dst)=some d∧((t d= .one (.v (.bool b))∧r=(b == want))∨(t d= .tup []∧r=false))
theorem wantedA_sound {E:Env} {w:World} {ops:Array Oper} {o:Oper} {t:Nat→AV} {a:Act} {r:Bool} {N:Nat} (hN:a.tmps.size=N)
    (h:wantedA ops o t r) (hd:∀j want d,o.guard=some (j,want)→(ops[j]?).bind (·.dst)=some d→d < N∧RV E w (t d) (a.tmps.getD d undef)) :
    Region.wanted o (yielded ops a.tmps)=r:=by
  unfold wantedA at h
  unfold Region.wanted
  split at h
  · rename_i hg;simp [hg,h]
  · rename_i j want hg
    obtain ⟨d,b,h1,h2⟩:=h
    obtain ⟨h4,h5⟩:=hd j want d hg h1
    rcases h2 with ⟨h2,h3⟩|⟨h2,h3⟩
    rotate_left
    · rw [h2] at h5
      obtain ⟨vs,h5,h6⟩:=h5
      obtain rfl:vs= []:=h6
      have h6:a.tmps[d]?=some (.tuple #[]):=by
        have:d < a.tmps.size:=by rw [hN];exact h4
        simpa [Array.getD_eq_getD_getElem?,this] using h5
      simp only [hg,yielded,h1,Option.bind_some,h6,h3]
      cases want <;> rfl
    rw [h2] at h5
    obtain ⟨_,h5,_⟩:=h5
    simp only [List.cons.injEq,and_true] at h5
    have h6:a.tmps[d]?=some (.bool b):=by
      have:d < a.tmps.size:=by rw [hN];exact h4
      simpa [Array.getD_eq_getD_getElem?,this] using h5
    simp only [hg,yielded,h1,Option.bind_some,h6,h3]
    cases b <;> cases want <;> rfl
def looks (ops:Array Oper) (o:Oper):List Tmp:=o.looksAt ops
def allD:Nat→Bool:=fun _=>true
structure TrOk (c:Ctx) (ops:Array Oper) (t:Nat→AV) (h:Nat→Option Box) (nb:Nat) (tr:Nat→Done) (anc:Nat→Nat→Bool) (D:Nat→Bool):Prop where
  dst:∀(i:Nat) (o:Oper),ops[i]?=some o→(tr i).dst=o.dst
  step:∀(i:Nat) (o:Oper),ops[i]?=some o→D i=true→∀it,(tr i).it=some it→wantedA ops o (slotsAt t tr (fun _=>true) i) true∧
    StepSound c.P c.G o (evAt (slotsAt t tr (fun _=>true) i)) (boxesAt h tr (fun _=>true) i) it
  skip:∀(i:Nat) (o:Oper),ops[i]?=some o→D i=true→(tr i).it=none→wantedA ops o (slotsAt t tr (fun _=>true) i) false
  ndef:∀(i:Nat) (o:Oper),ops[i]?=some o→∀c,o.op≠.defer c
  cst:∀(i:Nat) (o:Oper),ops[i]?=some o→∀x∈o.op.operands,constOk x=true
  looks:∀(i:Nat) (o:Oper),ops[i]?=some o→∀d∈o.looksAt ops,∀j,j < ops.size→(tr j).dst=some d→i=j∨(j < i∧anc i j=true)∨(i < j∧anc j i=true)
  dst1:∀i j d,i < ops.size→j < ops.size→(tr i).dst=some d→(tr j).dst=some d→i=j
  dstN:∀i d,i < ops.size→(tr i).dst=some d→d < c.N
  boxes:∀i j b,i < ops.size→j < ops.size→i≠j→(tr j).eff.id?=some b→(b∈(tr i).reads∨(tr i).eff.id?=some b)→(j < i∧anc i j=true)∨(i < j∧anc j i=true)
  new:∀i id bx,i < ops.size→(tr i).eff= .new id bx→nb≤id
  new1:∀i j id bx bx',i < ops.size→j < ops.size→(tr i).eff= .new id bx→(tr j).eff= .new id bx'→i=j
  nb0:c.nb0≤nb
  set:∀i id bx,i < ops.size→(tr i).eff= .set id bx→c.ns≤id
  back:∀(i:Nat) (o:Oper),ops[i]?=some o→∀e∈o.after,Region.binds .any e=true→e.on < i
  anc:∀S:Nat→Bool,(∀(i:Nat) (o:Oper),ops[i]?=some o→S i=true→∀e∈o.after,Region.binds .any e=true→S e.on=true)→
    ∀(i:Nat) (o:Oper),ops[i]?=some o→(∀e∈o.after,Region.binds .any e=true→S e.on=true)→∀j,anc i j=true→S j=true
theorem slotsAt_prefix {t:Nat→AV} {tr:Nat→Done} {n:Nat} {i:Nat}:∀{k:Nat},i≤k→slotsAt t tr (fun j=>decide (j < i)) k n=slotsAt t tr (fun _=>true) i n
  | 0, h => by obtain rfl : i = 0 := by omega
               rfl
  | k + 1, h => by
    by_cases e:i=k+1
    · subst e;exact slotsAt_congr fun j hj _=>by simpa using hj
    · have:¬k < i:=by omega
      simp only [slotsAt,this,decide_false,Bool.false_eq_true,false_and,if_false]
      exact slotsAt_prefix (by omega)
theorem boxesAt_prefix {h:Nat→Option Box} {tr:Nat→Done} {b:Nat} {i:Nat}:∀{k:Nat},i≤k→boxesAt h tr (fun j=>decide (j < i)) k b=boxesAt h tr (fun _=>true) i b
  | 0, hk => by obtain rfl : i = 0 := by omega
                rfl
  | k + 1, hk => by
    by_cases e:i=k+1
    · subst e;exact boxesAt_congr fun j hj _=>by simpa using hj
    · have:¬k < i:=by omega
      simp only [boxesAt,this,decide_false,Bool.false_eq_true,if_false]
      exact boxesAt_prefix (by omega)
def Closed (ops:Array Oper) (S:Nat→Bool):Prop:=
  ∀(i:Nat) (o:Oper),ops[i]?=some o→S i=true→∀e∈o.after,Region.binds .any e=true→S e.on=true
def fresh (nb n:Nat) (tr:Nat→Done) (S:Nat→Bool) (b:Nat):Prop:=nb≤b∧∀j,j < n→S j=true→∀bx,(tr j).eff≠.new b bx
structure Inv (c:Ctx) (ops:Array Oper) (t:Nat→AV) (h:Nat→Option Box) (gh:Env→World→Prop) (nb:Nat) (tr:Nat→Done) (S:Nat→Bool) (a:Act) (w:World):Prop where
  closed:Closed ops S
  out:∀i,ops.size≤i→S i=false
  sr:∃E,SR0 c (slotsAt t tr S ops.size) (boxesAt h tr S ops.size) gh (fresh nb ops.size tr S) E a w
theorem looksAt_operand {ops:Array Oper} {o:Oper} {d:Tmp} (h:Operand.tmp d∈o.op.operands):d∈o.looksAt ops:=by
  simp only [Oper.looksAt,List.mem_append,List.mem_filterMap]
  exact .inl ⟨.tmp d,by simpa using h,rfl⟩
theorem looksAt_guard {ops:Array Oper} {o:Oper} {j:Nat} {want:Bool} {d:Tmp} (hg:o.guard=some (j,want)) (h:(ops[j]?).bind (·.dst)=some d):d∈o.looksAt ops:=by
  simp [Oper.looksAt,hg,h]
theorem Inv.step {c:Ctx} (hc:CtxOk c) {ops:Array Oper} {t h gh nb tr anc D} (ok:TrOk c ops t h nb tr anc D) {S:Nat→Bool} {a:Act} {w:World}
    (I:Inv c ops t h gh nb tr S a w) {i:Nat} (hi:i < ops.size) (hDi:D i=true) (hS:S i=false) (hr:∀o,ops[i]?=some o→∀e∈o.after,Region.binds .any e=true→S e.on=true)
    {nn:Nat} {ro:Option Nat} {Q:Exit→Act→World→Prop} {K:Act→World→Prop} (hK:∀a w,Inv c ops t h gh nb tr (setAdd S i) a w→K a w):wpOpIn (WF ro) nn c.P ops Q i K a w:=by
  obtain ⟨o,ho⟩:∃o,ops[i]?=some o:=⟨ops[i],by simp [hi]⟩
  have hro:=hr o ho
  obtain ⟨E,s⟩:=I.sr
  have hanc:=ok.anc S I.closed
  -- what i sees is what it sees in the order of the text
  have hslot:∀d∈o.looksAt ops,slotsAt t tr S ops.size d=slotsAt t tr (fun _=>true) i d:=by
    intro d hd
    rw [←slotsAt_prefix (Nat.le_of_lt hi)]
    refine slotsAt_congr fun j hj hjd=>?_
    rcases ok.looks i o ho d hd j hj hjd with e|⟨h1,h2⟩|⟨h1,h2⟩
    · subst e;simp [hS]
    · simp [h1,hanc i o ho hro j h2]
    · have:¬j < i:=by omega
      simp only [this,decide_false]
      cases hSj:S j with
      | false=>rfl
      | true =>
        have hj':ops[j]?=some ops[j]:=by simp [hj]
        have:=hanc j _ hj' (fun e he hb=>I.closed j _ hj' hSj e he hb) i h2
        rw [this] at hS;cases hS
  have hbox:∀b,(b∈(tr i).reads∨(tr i).eff.id?=some b)→boxesAt h tr S ops.size b=boxesAt h tr (fun _=>true) i b:=by
    intro b hb
    rw [←boxesAt_prefix (Nat.le_of_lt hi)]
    refine boxesAt_congr fun j hj hjb=>?_
    by_cases e:i=j
    · subst e;simp [hS]
    · rcases ok.boxes i j b hi hj e hjb hb with ⟨h1,h2⟩|⟨h1,h2⟩
      · simp [h1,hanc i o ho hro j h2]
      · have:¬j < i:=by omega
        simp only [this,decide_false]
        cases hSj:S j with
        | false=>rfl
        | true =>
          have hj':ops[j]?=some ops[j]:=by simp [hj]
          have:=hanc j _ hj' (fun e he hb=>I.closed j _ hj' hSj e he hb) i h2
          rw [this] at hS;cases hS
  have hops:∀x∈o.op.operands,RV E w (evAt (slotsAt t tr (fun _=>true) i) x) (a.eval x):=by
    intro x hx
    have h1:=evAt_sound (t:=slotsAt t tr S ops.size) s.slots x (ok.cst i o ho x hx)
    cases x with
    | tmp d =>
      have:=hslot d (looksAt_operand hx)
      simp only [evAt] at h1 ⊢
      rwa [this] at h1
    | _=>exact h1
  have hwant:∀r,wantedA ops o (slotsAt t tr (fun _=>true) i) r→Region.wanted o (yielded ops a.tmps)=r:=by
    intro r hr
    refine wantedA_sound (E:=E) (w:=w) s.size hr fun j want d hg hd=>?_
    have hlk:=looksAt_guard hg hd
    refine ⟨?_,by rw [←hslot d hlk];exact s.slots d⟩
    have hj:j < ops.size:=by
      rcases Nat.lt_or_ge j ops.size with h|h
      · exact h
      · simp [Array.getElem?_eq_none h] at hd
    have hj':ops[j]?=some ops[j]:=by simp [hj]
    refine ok.dstN j d hj ?_
    rw [ok.dst j _ hj']
    simpa [hj'] using hd
  have hcl:Closed ops (setAdd S i):=by
    intro j o' hj hSj e he hb
    by_cases ej:j=i
    · subst ej;rw [ho] at hj;cases hj;simp [setAdd,hro e he hb]
    · have:S j=true:=by simpa [setAdd,ej] using hSj
      simp [setAdd,I.closed j o' hj this e he hb]
  have hout:∀j,ops.size≤j→setAdd S i j=false:=by
    intro j hj
    have:¬j=i:=by omega
    simp [setAdd,this,I.out j hj]
  have hSi:setAdd S i i=true:=by simp [setAdd]
  have hSne:∀j,j≠i→setAdd S i j=S j:=fun j hj=>by simp [setAdd,hj]
  have hlater:∀j b,i < j→j < ops.size→(tr j).eff.id?=some b→(b∈(tr i).reads∨(tr i).eff.id?=some b)→setAdd S i j=false:=by
    intro j b h1 h2 h3 h4
    rw [hSne j (by omega)]
    rcases ok.boxes i j b hi h2 (by omega) h3 h4 with ⟨h5,_⟩|⟨_,h6⟩
    · omega
    · cases hSj:S j with
      | false=>rfl
      | true =>
        have hj':ops[j]?=some ops[j]:=by simp [h2]
        have:=hanc j _ hj' (fun e he hb=>I.closed j _ hj' hSj e he hb) i h6
        rw [this] at hS;cases hS
  have hts:∀n,((tr i).dst=some n→slotsAt t tr (setAdd S i) ops.size n=(tr i).val)∧((tr i).dst≠some n→slotsAt t tr (setAdd S i) ops.size n=slotsAt t tr S ops.size n):=by
    intro n
    refine ⟨fun hd=>slotsAt_last hSi hd hi fun j h1 h2 h3=>?_,fun hd=>slotsAt_congr fun j hj hjd=>?_⟩
    · have:=ok.dst1 i j n hi h2 hd h3;omega
    · exact hSne j fun e=>hd (e ▸ hjd)
  unfold wpOpIn
  rw [ho];dsimp only
  cases hit:(tr i).it with
  | none =>
    rw [hwant false (ok.skip i o ho hDi hit)]
    simp only [Bool.false_eq_true,if_false]
    refine ⟨fun _ _=>trivial,hK _ _ ⟨hcl,hout,E,?_⟩⟩
    have:=EffR.sr (c:=c) (it:=⟨.tup [],.none,[]⟩) (dst:=o.dst) (v:=undef) (F':=fresh nb ops.size tr (setAdd S i)) (t':=slotsAt t tr (setAdd S i) ops.size) (h':=boxesAt h tr (setAdd S i) ops.size) s
      (E':=E) (w':=w) ⟨rfl,Below.refl _ _⟩ ⟨[],rfl,rfl⟩ (fun d hd=>ok.dstN i d hi (by rw [ok.dst i o ho];exact hd)) (fun _ _ h=>by cases h)
      (fun n=>by have:=hts n;rw [ok.dst i o ho] at this;simpa [Done.val,hit] using this)
      (fun b=>⟨fun _ h=>(by rcases h with h|h <;> cases h),fun _=>boxesAt_congr fun j hj hjb=>hSne j fun e=>by subst e;simp [Done.eff,hit,Eff.id?] at hjb⟩)
      (fun b hb=>⟨⟨hb.1,fun j hj hSj=>hb.2 j hj (by simp [setAdd,hSj])⟩,fun _ h=>by cases h⟩) (fun _ _ h=>by cases h)
    exact this
  | some it =>
    obtain ⟨h1,h2⟩:=ok.step i o ho hDi it hit
    rw [hwant true h1]
    simp only [if_true]
    have heff:(tr i).eff=it.eff:=by simp [Done.eff,hit]
    have hreads:(tr i).reads=it.reads:=by simp [Done.reads,hit]
    refine (h2 nn ro E w a K Q (ok.ndef i o ho) s.env (hc.g w s.below) hops (fun b hb bx hbx=>?_) (fun id bx he=>?_) fun v E' w' hv hE=>?_)
    · refine s.boxes b bx ?_
      rw [hbox b (by rw [heff,hreads];exact hb)];exact hbx
    · refine s.free id ⟨ok.new i id bx hi (by rw [heff];exact he),fun j hj hSj bx' hj'=>?_⟩
      have:=ok.new1 i j id bx bx' hi hj (by rw [heff];exact he) hj'
      subst this;rw [hS] at hSj;cases hSj
    · refine hK _ _ ⟨hcl,hout,E',?_⟩
      refine EffR.sr (c:=c) (it:=it) (dst:=o.dst) (v:=v) s hE hv (fun d hd=>ok.dstN i d hi (by rw [ok.dst i o ho];exact hd)) (fun id bx h=>ok.set i id bx hi (by rw [heff];exact h))
        (fun n=>by have:=hts n;rw [ok.dst i o ho] at this;simpa [Done.val,hit] using this)
        (fun b=>⟨fun bx hb=>boxesAt_last hSi (by rw [heff];exact hb) hi fun j h3 h4 h5=>hlater j b h3 h4 h5 (.inr (by rw [heff];rcases hb with hb|hb <;> simp [hb,Eff.id?])),
          fun hb=>boxesAt_congr fun j hj hjb=>hSne j fun e=>hb (by subst e;rw [heff] at hjb;exact hjb)⟩)
        (fun b hb=>⟨⟨hb.1,fun j hj hSj=>hb.2 j hj (by simp [setAdd,hSj])⟩,fun bx h=>hb.2 i hi hSi bx (by rw [heff];exact h)⟩)
        (fun id bx h=>Nat.le_trans ok.nb0 (ok.new i id bx hi (by rw [heff];exact h)))
def left (n:Nat) (S:Nat→Bool):Nat:=((List.range n).filter fun i=>!S i).length
theorem left_add {n:Nat} {S:Nat→Bool} {i:Nat} (hi:i < n) (hS:S i=false):left n (setAdd S i) < left n S:=by
  unfold left
  have:(List.range n).filter (fun j=>!setAdd S i j)=((List.range n).filter fun j=>!S j).filter fun j=>j != i:=by
    rw [List.filter_filter]
    refine List.filter_congr fun j _=>?_
    by_cases e:j=i
    · simp [setAdd,e]
    · simp only [setAdd,bne,Bool.not_or]
  rw [this]
  have hm:i∈(List.range n).filter fun j=>!S j:=by simp [hi,hS]
  generalize (List.range n).filter (fun j=>!S j)=l at hm ⊢
  clear this
  induction l with
  | nil=>cases hm
  | cons x l ih =>
    by_cases e:x=i
    · subst e
      simp only [List.filter_cons,bne_self_eq_false,Bool.false_eq_true,if_false,List.length_cons]
      have:=List.length_filter_le (fun j=>j != x) l
      omega
    · have hm':i∈l:=by cases hm with
        | head=>exact absurd rfl e
        | tail _ h=>exact h
      have:=ih hm'
      have hx:(x != i)=true:=by simpa using e
      simp only [List.filter_cons,hx,if_true,List.length_cons]
      omega
theorem ready_iff {ops:Array Oper} {listed:Array Bool} {i:Nat}:i∈Region.ready .any ops listed↔
    i < ops.size∧listed.getD i true=false∧∃o,ops[i]?=some o∧∀e∈o.after,Region.binds .any e=true→listed.getD e.on false=true:=by
  unfold Region.ready
  simp only [List.mem_filter,List.mem_range,Bool.and_eq_true]
  refine and_congr_right fun hi=>?_
  have ho:ops[i]?=some ops[i]:=by simp [hi]
  rw [ho]
  simp only [Option.map_some,Option.getD_some,Array.all_eq_true_iff_forall_mem,Option.some.injEq]
  constructor
  · rintro ⟨a,b⟩
    refine ⟨by simpa using a,_,rfl,fun e he hb=>?_⟩
    have:=b e he
    simpa [hb] using this
  · rintro ⟨a,o,rfl,b⟩
    refine ⟨by simp [a],fun e he=>?_⟩
    cases hb:Region.binds .any e with
    | false=>rfl
    | true=>simp [b e he hb]
theorem wpAny_inv {nn:Nat} {ro:Option Nat} {c:Ctx} (hc:CtxOk c) {ops:Array Oper} {t h gh nb tr anc} (ok:TrOk c ops t h nb tr anc allD) {Q:Exit→Act→World→Prop}
    (hQ:∀a w,Inv c ops t h gh nb tr (fun i=>decide (i < ops.size)) a w→Q .normal a w) :
    ∀(fuel:Nat) (listed:Array Bool) (a:Act) (w:World),listed.size=ops.size→left ops.size (fun i=>listed.getD i false)≤fuel→
      Inv c ops t h gh nb tr (fun i=>listed.getD i false) a w→wpAnyIn (WF ro) nn c.P .any ops Q fuel listed a w:=by
  have hend:∀(listed:Array Bool) (a:Act) (w:World),listed.size=ops.size→Inv c ops t h gh nb tr (fun i=>listed.getD i false) a w→Region.ready .any ops listed= []→Q .normal a w:=by
    intro listed a w hs I hr
    refine hQ a w ?_
    have hall:∀n i,i < n→i < ops.size→listed.getD i false=true:=by
      intro n
      induction n with
      | zero=>intro i h;omega
      | succ n ih =>
        intro i h1 h2
        cases hl:listed.getD i false with
        | true=>rfl
        | false =>
          have ho:ops[i]?=some ops[i]:=by simp [h2]
          have:i∈Region.ready .any ops listed:=by
            refine ready_iff.2 ⟨h2,?_,_,ho,fun e he hb=>?_⟩
            · have:i < listed.size:=by omega
              simpa [Array.getD_eq_getD_getElem?,this] using hl
            · have:=ok.back i _ ho e he hb
              exact ih e.on (by omega) (by omega)
          rw [hr] at this;cases this
    have:(fun i=>listed.getD i false)=fun i=>decide (i < ops.size):=by
      funext i
      by_cases h:i < ops.size
      · simp [h,hall (i+1) i (by omega) h]
      · have:listed[i]?=none:=Array.getElem?_eq_none (by omega)
        simp [h,Array.getD_eq_getD_getElem?,this]
    rw [←this];exact I
  intro fuel
  induction fuel with
  | zero =>
    intro listed a w hs hl I
    have hr:Region.ready .any ops listed= []:=by
      refine List.eq_nil_iff_forall_not_mem.2 fun i hi=>?_
      obtain ⟨h1,h2,_⟩:=ready_iff.1 hi
      have:listed.getD i false=false:=by
        have:i < listed.size:=by omega
        simpa [Array.getD_eq_getD_getElem?,this] using h2
      have:=left_add (S:=fun i=>listed.getD i false) h1 this
      omega
    exact ⟨hr,hend listed a w hs I hr⟩
  | succ fuel ih =>
    intro listed a w hs hl I
    refine ⟨hend listed a w hs I,fun i hi=>?_⟩
    obtain ⟨h1,h2,o,ho,h3⟩:=ready_iff.1 hi
    have hli:i < listed.size:=by omega
    have h2':listed.getD i false=false:=by simpa [Array.getD_eq_getD_getElem?,hli] using h2
    have hset:(fun j=>(listed.setIfInBounds i true).getD j false)=setAdd (fun j=>listed.getD j false) i:=by
      funext j
      by_cases e:j=i
      · subst e;simp [setAdd,Array.getD_eq_getD_getElem?,hli]
      · have:i≠j:=fun h=>e h.symm
        simp [setAdd,e,Array.getD_eq_getD_getElem?,Array.getElem?_setIfInBounds_ne this]
    refine I.step hc ok h1 rfl h2' (fun o' ho' e he hb=>?_) fun a w I'=>?_
    · rw [ho] at ho';cases ho';exact h3 e he hb
    · refine ih _ a w (by simpa using hs) ?_ ?_
      · rw [hset]
        have:=left_add (S:=fun i=>listed.getD i false) h1 h2'
        omega
      · rw [hset];exact I'
theorem same_below {c:Ctx} {E:Env} {w w':World} (he:EnvOk E w) (hc:c.w0.heap.size≤w.heap.size) (hb:Below w.heap.size w w'):SameM c E w E w':=
  ⟨rfl,hb.os,hb.tape,hb.output,hb.size,fun k hk=>hb.block k (he.m k hk),fun k hk _=>hb.block k (Nat.lt_of_lt_of_le hk hc)⟩
theorem SR0.grown {c:Ctx} {t h gh F E a w} (s:SR0 c t h gh F E a w) {w':World} (hb:Below w.heap.size w w'):SR0 c t h gh F E a w':=
  ⟨s.size,s.defers.same (same_below s.env s.below.size hb),fun n=>(keeps_below hb).rv (s.slots n),fun b bx hbx=>(s.boxes b bx hbx).keeps (keeps_below hb) fun k hk=>hb.block k (s.env.r _ _ hk),s.env.below hb.size,
    s.below.below hb s.below.size,s.own,s.low,s.m,s.free,s.ownM,s.gh.same (same_below s.env s.below.size hb)⟩
theorem below_drawn (w:World) (n:Nat):Below w.heap.size w { w with drawn:=n }:=⟨rfl,rfl,rfl,Nat.le_refl _,fun _ _=>rfl⟩
theorem wp_region_abs {nn:Nat} {ro:Option Nat} {c:Ctx} (hc:CtxOk c) (hm:c.P.follows .mixedOrders=true) {id:Nat} {ops:Array Oper} {st:St} {tr:Nat→Done} {anc:Nat→Nat→Bool} {E:Env} {a:Act} {w:World}
    (s:SR c st E a w) (ok:TrOk c ops st.t st.h st.nb tr anc allD) {nb':Nat} (hnb:∀i id bx,i < ops.size→(tr i).eff= .new id bx→id < nb') (hnb0:st.nb≤nb') {Q:Exit→Act→World→Prop}
    (hQ:∀E a w,SR c ⟨slotsAt st.t tr (fun _=>true) ops.size,boxesAt st.h tr (fun _=>true) ops.size,nb',st.gh⟩ E a w→Q .normal a w):(Code.region id ops true).wpIn (WF ro) nn c.P Q a w:=by
  refine wpIn_region_any hm (wpAny_inv (gh:=st.gh) hc ok (fun a w I=>?_) _ _ _ _ (by simp) ?_ ?_)
  · obtain ⟨E,s⟩:=I.sr
    have e1:slotsAt st.t tr (fun i=>decide (i < ops.size)) ops.size=slotsAt st.t tr (fun _=>true) ops.size:=funext fun n=>slotsAt_prefix (Nat.le_refl _)
    have e2:boxesAt st.h tr (fun i=>decide (i < ops.size)) ops.size=boxesAt st.h tr (fun _=>true) ops.size:=funext fun n=>boxesAt_prefix (Nat.le_refl _)
    rw [e1,e2] at s
    refine hQ E a w ⟨s.size,s.defers,s.slots,s.boxes,s.env,s.below,s.own,s.low,s.m,fun b hb=>s.free b ⟨?_,fun j hj _ bx h=>?_⟩,s.ownM,s.gh⟩
    · exact Nat.le_trans hnb0 hb
    · have:=hnb j b bx hj h
      have hb':nb'≤b:=hb
      omega
  · unfold left;exact Nat.le_trans (List.length_filter_le _ _) (by simp)
  · have e0:(fun i=>(Array.replicate ops.size false).getD i false)=fun _=>false:=by
      funext i
      by_cases h:i < ops.size <;> simp [Array.getD_eq_getD_getElem?,h]
    have e1:∀k,slotsAt st.t tr (fun _=>false) k=st.t:=by
      intro k;funext n
      induction k with
      | zero=>rfl
      | succ k ih=>simp [slotsAt,ih]
    have e2:∀k,boxesAt st.h tr (fun _=>false) k=st.h:=by
      intro k;funext n
      induction k with
      | zero=>rfl
      | succ k ih=>simp [boxesAt,ih]
    rw [e0]
    refine ⟨fun _ _ _ h=>(by cases h),fun _ _=>rfl,E,?_⟩
    rw [e1,e2]
    have s:=s.grown (below_drawn w (w.drawn+1))
    exact ⟨s.size,s.defers,s.slots,s.boxes,s.env,s.below,s.own,s.low,s.m,fun b hb=>s.free b hb.1,s.ownM,s.gh⟩
-- axioms of wp_region_abs
end Go.Ax
end
section
namespace Go.Ax
open Go.RowKit (Below)
/-! ## Parts of a flat list -/
def dropL:List Leaf→Nat→Option (List Leaf)
  | [], n => match Nat.beq n 0 with
    | true=>some []
    | false=>none
  | x :: xs, n => match Nat.beq n 0 with
    | true=>some (x :: xs)
    | false => match Nat.ble x.size n with
      | true=>dropL xs (n - x.size)
      | false => match x, Nat.beq n 2 with
        | .frac q,true=>some (.int q.den :: xs)
        | _,_=>none
def takeL:List Leaf→Nat→Option (List Leaf)
  | [], n => match Nat.beq n 0 with
    | true=>some []
    | false=>none
  | x :: xs, n => match Nat.beq n 0 with
    | true=>some []
    | false => match Nat.ble x.size n with
      | true => match takeL xs (n - x.size) with
        | some r=>some (x :: r)
        | none=>none
      | false => match x, Nat.beq n 2 with
        | .frac q,true=>some [.int q.num]
        | _,_=>none
theorem dropL_zero:∀ls:List Leaf,dropL ls 0=some ls
  | []=>rfl
  | _ :: _=>rfl
theorem takeL_zero:∀ls:List Leaf,takeL ls 0=some []
  | []=>rfl
  | _ :: _=>rfl
theorem dropL_succ (x:Leaf) (xs:List Leaf) (n:Nat):dropL (x :: xs) (n+1)=match Nat.ble x.size (n+1) with
    | true=>dropL xs (n+1 - x.size)
    | false => match x, Nat.beq (n + 1) 2 with
      | .frac q,true=>some (.int q.den :: xs)
      | _,_=>none:=by
  cases x <;> rfl
theorem takeL_succ (x:Leaf) (xs:List Leaf) (n:Nat):takeL (x :: xs) (n+1)=match Nat.ble x.size (n+1) with
    | true => match takeL xs (n + 1 - x.size) with
      | some r=>some (x :: r)
      | none=>none
    | false => match x, Nat.beq (n + 1) 2 with
      | .frac q,true=>some [.int q.num]
      | _,_=>none:=by
  cases x <;> rfl
theorem dropL_R {E:Env} {w:World}:∀{ls:List Leaf} {n:Nat} {ls':List Leaf} {cs:List Value},LeavesR E w ls cs→dropL ls n=some ls'→LeavesR E w ls' (cs.drop n)
  | ls, 0, ls', cs, h, e => by
    have:ls=ls':=by simpa [dropL_zero] using e
    subst this;simpa using h
  | [],n+1,ls',cs,h,e=>by rw [show dropL [] (n+1)=none from rfl] at e;cases e
  | x :: xs, n + 1, ls', cs, h, e => by
    obtain ⟨ys,zs,rfl,h1,h2⟩:=h
    have hl:=(Leaf.R_len h1).1
    rw [dropL_succ] at e
    split at e
    · rename_i hle
      have hle:=Nat.le_of_ble_eq_true hle
      rw [List.drop_append,List.drop_eq_nil_of_le (by omega),List.nil_append,hl]
      exact dropL_R h2 e
    · split at e
      · have h2':Nat.beq (n+1) 2=true:=by assumption
        have h2':=Nat.eq_of_beq_eq_true h2'
        obtain rfl:n=1:=by omega
        cases e
        obtain ⟨as,bs,rfl,ha,hb⟩:=h1
        have:=IntR.length ha
        refine ⟨bs,zs,?_,hb,h2⟩
        rw [List.append_assoc,List.drop_append,List.drop_eq_nil_of_le (by omega),this];simp
      · cases e
theorem takeL_R {E:Env} {w:World}:∀{ls:List Leaf} {n:Nat} {ls':List Leaf} {cs:List Value},LeavesR E w ls cs→takeL ls n=some ls'→LeavesR E w ls' (cs.take n)∧n≤cs.length
  | ls, 0, ls', cs, h, e => by
    have:ls'= []:=by simpa [takeL_zero] using e.symm
    subst this;exact ⟨by simp [LeavesR],Nat.zero_le _⟩
  | [],n+1,ls',cs,h,e=>by rw [show takeL [] (n+1)=none from rfl] at e;cases e
  | x :: xs, n + 1, ls', cs, h, e => by
    obtain ⟨ys,zs,rfl,h1,h2⟩:=h
    have hl:=(Leaf.R_len h1).1
    rw [takeL_succ] at e
    split at e
    · rename_i hle
      have hle:=Nat.le_of_ble_eq_true hle
      cases ht:takeL xs (n+1 - x.size) with
      | none=>rw [ht] at e;cases e
      | some r =>
        rw [ht] at e;cases e
        obtain ⟨h3,h4⟩:=takeL_R h2 ht
        refine ⟨⟨ys,zs.take (n+1 - x.size),?_,h1,h3⟩,by simp;omega⟩
        rw [List.take_append,List.take_of_length_le (by omega),hl]
    · split at e
      · have h2':Nat.beq (n+1) 2=true:=by assumption
        have h2':=Nat.eq_of_beq_eq_true h2'
        obtain rfl:n=1:=by omega
        cases e
        obtain ⟨as,bs,rfl,ha,hb⟩:=h1
        have:=IntR.length ha
        refine ⟨⟨as,[],?_,ha,rfl⟩,by simp [this]⟩
        rw [List.append_assoc,List.take_append,List.take_of_length_le (by omega),this];simp
      · cases e
def subL (ls:List Leaf) (o n:Nat):Option (List Leaf):=match dropL ls o with
  | some r=>takeL r n
  | none=>none
theorem subL_R {E:Env} {w:World} {ls ls':List Leaf} {o n:Nat} {cs:List Value} (h:LeavesR E w ls cs) (e:subL ls o n=some ls') :
    LeavesR E w ls' ((cs.drop o).take n)∧o+n≤cs.length∨n=0∧LeavesR E w ls' []:=by
  unfold subL at e
  cases hd:dropL ls o with
  | none=>rw [hd] at e;cases e
  | some r =>
    rw [hd] at e
    obtain ⟨h1,h2⟩:=takeL_R (dropL_R h hd) e
    by_cases hn:n=0
    · subst hn;right;refine ⟨rfl,?_⟩;simpa using h1
    · left;refine ⟨h1,?_⟩;simp at h2;omega
theorem LeavesR_append {E:Env} {w:World}:∀{as bs:List Leaf} {xs ys:List Value},LeavesR E w as xs→LeavesR E w bs ys→LeavesR E w (as++bs) (xs++ys)
  | [],bs,xs,ys,h,k=>by obtain rfl:xs= []:=h;exact k
  | a :: as, bs, xs, ys, h, k => by
    obtain ⟨us,vs,rfl,h1,h2⟩:=h
    exact ⟨us,vs++ys,by simp,h1,LeavesR_append h2 k⟩
def setL (ls:List Leaf) (o n:Nat) (new:List Leaf):Option (List Leaf):=match takeL ls o,dropL ls (o+n) with
  | some a,some b=>some (a++(new++b))
  | _,_=>none
theorem setL_R {E:Env} {w:World} {ls ls' new:List Leaf} {o n:Nat} {cs ds:List Value} (h:LeavesR E w ls cs) (hn:LeavesR E w new ds) (e:setL ls o n new=some ls') :
    LeavesR E w ls' (cs.take o++(ds++cs.drop (o+n))):=by
  unfold setL at e
  cases ht:takeL ls o with
  | none=>rw [ht] at e;cases e
  | some a =>
    cases hd:dropL ls (o+n) with
    | none=>rw [ht,hd] at e;cases e
    | some b =>
      rw [ht,hd] at e;cases e
      exact LeavesR_append (takeL_R h ht).1 (LeavesR_append hn (dropL_R h hd))
def mkAV:Bool→List Leaf→Option AV
  | true,ls=>some (.agg ls)
  | false, [x] => match Nat.beq x.size 1 with
    | true=>some (.one x)
    | false=>none
  | false,_=>none
def AV.leaves:AV→Option (List Leaf)
  | .one x=>some [x]
  | .agg xs=>some xs
  | _=>none
theorem leaves_R {E:Env} {w:World} {x:AV} {v:Value} {ls:List Leaf} (h:RV E w x v) (hl:x.leaves=some ls):LeavesR E w ls v.cells.toList:=by
  cases x with
  | one x =>
    cases hl
    obtain ⟨h1,h2⟩:=h
    have:=(Leaf.R_len h2).2 v (by simp)
    have hc:v.cells.toList= [v]:=by cases v <;> first|rfl|cases this
    rw [hc]
    exact ⟨[v],[],rfl,h2,rfl⟩
  | agg xs =>
    cases hl
    obtain ⟨cs,rfl,h⟩:=h
    simpa [Value.cells] using h
  | tup _=>cases hl
  | u=>cases hl
theorem run_isAgg {P:Program} {t:TypeId} {d:TypeDesc} (h:P.underlying t=some d) (w:World):(isAgg t).run P w= .ok d.isRow w:=by
  unfold isAgg
  rw [Sem.run_bind,run_underlying h w]
  cases d <;> simp
theorem run_loadAt_cells {P:Program} {w:World} {T:TypeId} {ti:TyI} (ht:tyI P T=some ti) {b o:Nat} {cs:List Value} (hr:w.rangeAt b o cs) (hl:cs.length=ti.size)
    {E:Env} {ls:List Leaf} (hls:LeavesR E w ls cs) {x:AV} (hx:mkAV ti.agg ls=some x):∃v,(Instr.loadAt T (.pointer (some ⟨b,o,none⟩))).run P w= .ok v w∧RV E w x v:=by
  obtain ⟨i,d,h1,h2,h3,_,h4,_⟩:=tyI_spec ht
  cases ha:ti.agg with
  | true =>
    rw [ha] at hx;cases hx
    refine ⟨.agg cs.toArray,run_loadAt_mid w b o T cs d hr h2 (h4.trans ha) (by simp [h1,h3,hl]),?_⟩
    exact ⟨cs,rfl,hls⟩
  | false =>
    have hag:(isAgg T).run P w= .ok false w:=by rw [run_isAgg h2,h4,ha]
    rw [ha] at hx
    match ls,hls,hx with
    | [l], hls, hx =>
      simp only [mkAV] at hx
      split at hx
      · rename_i h5
        have h5:=Nat.eq_of_beq_eq_true h5
        cases hx
        obtain ⟨xs,ys,rfl,h6,h7⟩:=hls
        obtain rfl:ys= []:=h7
        have h8:=(Leaf.R_len h6).1
        rw [h5] at h8
        match xs,h8 with
        | [v], _ =>
          have hv:=hr 0 v rfl
          refine ⟨v,?_,h5,h6⟩
          rw [Nat.add_zero] at hv
          simp [Instr.loadAt,Instr.sureAddr,loadVar,hag,load,Sem.run,hv]
      · cases hx
theorem run_storeAt_cells {P:Program} {w:World} {T:TypeId} {ti:TyI} (ht:tyI P T=some ti) {b o:Nat} {v:Value} {cs:List Value} (hcs:v.cells.toList=cs) (hl:cs.length=ti.size)
    (hth:w.there b o cs.length) (h1:∀c∈cs,c.oneCell'=true):(Instr.storeAt T (.pointer (some ⟨b,o,none⟩)) v).run P w= .ok () (w.setCells b o cs):=by
  obtain ⟨i,d,hi,_,h3,_⟩:=tyI_spec ht
  have:=run_storeCells_cells (P:=P) b o cs 0 w (fun j hj=>by simpa using (hth j hj).1) (fun j hj=>by simpa using (hth j hj).2) h1
  have hs:v.cells.size=i.size:=by rw [h3,←hl,←hcs];simp
  simp only [Nat.add_zero] at this
  simp [Instr.storeAt,Instr.sureAddr,storeVar,sizeOf,typeInfo,hi,hs,hcs,this]
-- axioms of run_storeAt_cells
end Go.Ax
end
section
namespace Go.Ax
open Go.RowKit (Below)
def setRange:Array Value→Nat→List Value→Array Value
  | c,_,[]=>c
  | c,o,v :: r=>setRange (c.setIfInBounds o v) (o+1) r
theorem setRange_size:∀(vs:List Value) (c:Array Value) (o:Nat),(setRange c o vs).size=c.size
  | [],_,_=>rfl
  | v :: r,c,o=>by simp [setRange,setRange_size r]
theorem setRange_get:∀(vs:List Value) (c:Array Value) (o j:Nat),(setRange c o vs)[j]?=if o≤j∧j < o+vs.length∧j < c.size then vs[j - o]? else c[j]?
  | [], c, o, j => by
    have:¬(o≤j∧j < o+([]:List Value).length∧j < c.size):=by simp;omega
    simp only [setRange,this,if_false]
  | v :: r, c, o, j => by
    rw [setRange,setRange_get r]
    simp only [Array.size_setIfInBounds,List.length_cons]
    by_cases h:o≤j∧j < o+(r.length+1)∧j < c.size
    · rw [if_pos h]
      by_cases e:j=o
      · subst e
        rw [if_neg (by omega)]
        simp [h.2.2]
      · rw [if_pos (by omega)]
        obtain ⟨m,hm⟩:∃m,j - o=m+1:=⟨j - o - 1,by omega⟩
        rw [hm,List.getElem?_cons_succ]
        congr 1;omega
    · rw [if_neg h]
      by_cases e:j=o
      · subst e
        have:¬j < c.size:=by omega
        rw [if_neg (by omega)]
        simp [this]
      · rw [if_neg (by omega),Array.getElem?_setIfInBounds_ne (by omega)]
theorem heap_setCell_same {w:World} {k:Nat} {c:Array Value} {T:TypeId} {fr:Nat×Nat} (h:w.heap[k]?=some (.cells c T fr)) (o:Nat) (v:Value) :
    (w.setCell ⟨k,o,none⟩ v).heap[k]?=some (.cells (c.setIfInBounds o v) T fr):=by
  simp [World.setCell,Array.getElem?_modify,h]
theorem heap_setCells_same:∀(vs:List Value) {w:World} {k:Nat} {c:Array Value} {T:TypeId} {fr:Nat×Nat},w.heap[k]?=some (.cells c T fr)→∀(o:Nat),
    (w.setCells k o vs).heap[k]?=some (.cells (setRange c o vs) T fr)
  | [],_,_,_,_,_,h,_=>h
  | _ :: r,_,_,_,_,_,h,o=>heap_setCells_same r (heap_setCell_same h o _) (o+1)
theorem wrote_setCell (w:World) (k o:Nat) (v:Value):Wrote k w (w.setCell ⟨k,o,none⟩ v):=
  ⟨rfl,rfl,rfl,by simp [World.setCell],fun j _ h=>Go.RowKit.Below.heap_setCell w ⟨k,o,none⟩ v j h⟩
theorem Wrote.trans {k:Nat} {a b c:World} (h:Wrote k a b) (g:Wrote k b c):Wrote k a c:=
  ⟨g.os.trans h.os,g.tape.trans h.tape,g.output.trans h.output,Nat.le_trans h.size g.size,fun j hj hk=>(g.block j (Nat.lt_of_lt_of_le hj h.size) hk).trans (h.block j hj hk)⟩
theorem wrote_setCells:∀(vs:List Value) (w:World) (k o:Nat),Wrote k w (w.setCells k o vs)
  | [],_,_,_=>⟨rfl,rfl,rfl,Nat.le_refl _,fun _ _ _=>rfl⟩
  | _ :: r,w,k,o=>(wrote_setCell w k o _).trans (wrote_setCells r _ k (o+1))
variable {P:Program} {G:World→Prop}
theorem step_value {o:Oper} {ev:Operand→AV} {H:Nat→Option Box} {x:AV} {reads:List Nat}
    (h:∀(E:Env) (w:World) (a:Act),EnvOk E w→G w→(∀y∈o.op.operands,RV E w (ev y) (a.eval y))→(∀b∈reads,∀bx,H b=some bx→BoxR E w b bx)→
      ∃v,(execOp a.eval o).run P w= .ok (.value v) w∧RV E w x v):StepSound P G o ev H { val:=x,reads }:=by
  intro nn ro E w a K Q hdf hE hG hops hb _ hK
  obtain ⟨v,h1,h2⟩:=h E w a hE hG hops fun b hb' bx=>hb b (.inl hb') bx
  refine wpIn_open hdf ?_
  rw [h1]
  exact hK v E w h2 ⟨rfl,Below.refl _ _⟩
theorem step_move {o:Oper} {x:Operand} (ho:o.op= .move x∨o.op= .assign x) (ev:Operand→AV) (H:Nat→Option Box):StepSound P G o ev H { val:=ev x }:=by
  refine step_value fun E w a _ _ hops _=>⟨a.eval x,?_,hops x ?_⟩
  · rcases ho with ho|ho <;> (unfold execOp;rw [ho];rfl)
  · rcases ho with ho|ho <;> (rw [ho];simp [Op.operands])
def pickAV:Bool→AV→AV→AV
  | true,x,_=>x
  | false,_,y=>y
theorem step_pick {o:Oper} {c x y:Operand} (ho:o.op= .pick c x y) {ev:Operand→AV} {b:Bool} (hc:ev c= .one (.v (.bool b))) (H:Nat→Option Box) :
    StepSound P G o ev H { val:=pickAV b (ev x) (ev y) }:=by
  refine step_value fun E w a _ _ hops _=>⟨if b then a.eval x else a.eval y,?_,?_⟩
  · have h1:=hops c (by rw [ho];simp [Op.operands])
    rw [hc] at h1
    obtain ⟨_,h1,_⟩:=h1
    simp only [List.cons.injEq,and_true] at h1
    unfold execOp;rw [ho]
    simp [h1,asBool]
  · cases b
    · exact hops y (by rw [ho];simp [Op.operands])
    · exact hops x (by rw [ho];simp [Op.operands])
theorem below_alloc (w:World) (o:Obj):Below w.heap.size w (w.alloc o):=(Below.refl _ _).alloc (Nat.le_refl _) _
theorem heap_alloc_last (w:World) (o:Obj):(w.alloc o).heap[w.heap.size]?=some o:=by
  show (w.heap.push o)[w.heap.size]?=some o
  simp
theorem heap_alloc_lt (w:World) (o:Obj):w.heap.size < (w.alloc o).heap.size:=by
  show w.heap.size < (w.heap.push o).size
  simp
theorem run_newVar' {P:Program} (w:World) (v:Value) (T:TypeId):(newVar T v).run P w= .ok ⟨w.heap.size,0,none⟩ (w.alloc (.cells v.cells T)):=rfl
theorem boxR_new {E E':Env} {w:World} {id:Nat} {ls:List Leaf} {cs:List Value} {T:TypeId} (hls:LeavesR E w ls cs) (hk:Keeps E w E' (w.alloc (.cells cs.toArray T))) (hid:E'.ρ id=some w.heap.size) :
    BoxR E' (w.alloc (.cells cs.toArray T)) id { sz:=sizes ls,n:=1,g:=fun _=>ls }:=by
  refine .inr ⟨w.heap.size,cs.toArray,T,hid,heap_alloc_last _ _,Nat.le_of_eq (by simp [(LeavesR_len hls).1]),fun i hi=>⟨cs,rfl,hk.leaves hls,fun j v hv=>?_⟩⟩
  obtain rfl:i=0:=by simpa using hi
  simpa using hv
theorem step_new {o:Oper} {ev:Operand→AV} {H:Nat→Option Box} {id:Nat} {ls:List Leaf} {T:TypeId}
    (h:∀(E:Env) (w:World) (a:Act),EnvOk E w→(∀y∈o.op.operands,RV E w (ev y) (a.eval y))→
      ∃cs,(execOp a.eval o).run P w= .ok (.value (.pointer (some ⟨w.heap.size,0,none⟩))) (w.alloc (.cells cs.toArray T))∧LeavesR E w ls cs) :
    StepSound P G o ev H { val:=.one (.ptr id (sizes ls) 0 0),eff:=.new id { sz:=sizes ls,n:=1,g:=fun _=>ls } }:=by
  intro nn ro E w a K Q hdf hE hG hops hb hid hK
  obtain ⟨cs,h1,h2⟩:=h E w a hE hops
  have hid:=hid id _ rfl
  refine wpIn_open hdf ?_
  rw [h1]
  have hk:=keeps_add (below_alloc w (.cells cs.toArray T)) hid (Nat.le_refl _)
  have hρ:(E.add id w.heap.size).ρ id=some w.heap.size:=by simp [Env.add]
  exact hK _ (E.add id w.heap.size) _ ⟨rfl,_,hρ,by simp⟩ ⟨w.heap.size,Nat.le_refl _,heap_alloc_lt _ _,hid,rfl,below_alloc _ _,boxR_new h2 hk hρ⟩
theorem step_box {o:Oper} {T:TypeId} {x:Operand} (ho:o.op= .box T x) {ev:Operand→AV} (H:Nat→Option Box) (id:Nat) {ls:List Leaf} (hx:(ev x).leaves=some ls) :
    StepSound P G o ev H { val:=.one (.ptr id (sizes ls) 0 0),eff:=.new id { sz:=sizes ls,n:=1,g:=fun _=>ls } }:=by
  refine step_new (T:=T) fun E w a _ hops=>⟨(a.eval x).cells.toList,?_,leaves_R (hops x (by rw [ho];simp [Op.operands])) hx⟩
  unfold execOp;rw [ho]
  simp [Instr.box,run_newVar']
theorem step_alloc {o:Oper} {T:TypeId} (ho:o.op= .alloc T) {ti:TyI} (ht:tyI P T=some ti) {zs:List Value} (hz:ti.zero=some zs) (h1:zs.all (·.oneCell')=true) (ev:Operand→AV) (H:Nat→Option Box) (id:Nat) :
    StepSound P G o ev H { val:=.one (.ptr id (sizes (zs.map Leaf.v)) 0 0),eff:=.new id { sz:=sizes (zs.map Leaf.v),n:=1,g:=fun _=>zs.map Leaf.v } }:=by
  obtain ⟨i,d,hi,_,_,_,_,h2⟩:=tyI_spec ht
  rw [hz] at h2
  cases hzero:i.zero with
  | none=>rw [hzero] at h2;cases h2
  | some z =>
    rw [hzero] at h2;simp only [Option.map_some,Option.some.injEq] at h2
    refine step_new (T:=T) fun E w a _ hops=>⟨zs,?_,LeavesR_v zs h1⟩
    unfold execOp;rw [ho]
    simp [Instr.alloc,zeroValue,typeInfo,hi,hzero,run_newVar',h2]
theorem BoxR.range {E w b bx} (h:BoxR E w b bx) {i:Nat} (hi:i < bx.n):∃k c T es,E.ρ b=some k∧w.heap[k]?=some (.cells c T (0,0))∧bx.n*bx.sz≤c.size∧sizes (bx.g i)=bx.sz∧LeavesR E w (bx.g i) es∧w.rangeAt k (i*bx.sz) es∧es.length=bx.sz:=by
  rcases h with ⟨_,h0⟩|⟨k,c,T,h1,h2,h3,h4⟩
  · omega
  obtain ⟨es,h5,h6,h7⟩:=h4 i hi
  refine ⟨k,c,T,es,h1,h2,h3,h5,h6,fun j v hv=>?_,(LeavesR_len h6).1.trans h5⟩
  rw [cell_of_row w k _ c T (0,0) h2]
  exact h7 j v hv
theorem rangeAt_sub {w:World} {k o:Nat} {es:List Value} (h:w.rangeAt k o es) (d n:Nat):w.rangeAt k (o+d) ((es.drop d).take n):=by
  intro j v hv
  rw [List.getElem?_take] at hv
  split at hv
  · rw [List.getElem?_drop] at hv
    have:=h _ _ hv
    rwa [←Nat.add_assoc] at this
  · cases hv
theorem step_load {o:Oper} {T:TypeId} {x:Operand} (ho:o.op= .load T x) {ev:Operand→AV} {H:Nat→Option Box} {b sz i off:Nat} (hx:ev x= .one (.ptr b sz i off)) {bx:Box} (hb:H b=some bx) (hi:i < bx.n) (hsz:sz=bx.sz)
    {ti:TyI} (ht:tyI P T=some ti) (hpos:0 < ti.size) {ls:List Leaf} (hls:subL (bx.g i) off ti.size=some ls) {y:AV} (hy:mkAV ti.agg ls=some y):StepSound P G o ev H { val:=y,reads:=[b] }:=by
  refine step_value fun E w a _ _ hops hbx=>?_
  have h1:=hops x (by rw [ho];simp [Op.operands])
  rw [hx] at h1
  obtain ⟨_,k,h2,h3⟩:=h1
  obtain ⟨k',c,Tb,es,h4,h5,h6,h7,h8,h9,h10⟩:=(hbx b (by simp) bx hb).range hi
  rw [h2] at h4;cases h4
  rcases subL_R h8 hls with ⟨h11,h12⟩|⟨h11,_⟩
  · subst hsz
    obtain ⟨v,h13,h14⟩:=run_loadAt_cells ht (rangeAt_sub h9 off ti.size) (by simp;omega) h11 hy
    refine ⟨v,?_,h14⟩
    simp only [List.cons.injEq,and_true] at h3
    unfold execOp;rw [ho];dsimp only;rw [h3]
    simp [h13]
  · omega
theorem step_load_pp {o:Oper} {T:TypeId} {x:Operand} (ho:o.op= .load T x) {ev:Operand→AV} {xs:List Leaf} (hx:ev x= .one (.pp xs)) (H:Nat→Option Box)
    {ti:TyI} (ht:tyI P T=some ti) (hpos:0 < ti.size) {ls:List Leaf} (hls:subL xs 0 ti.size=some ls) {y:AV} (hy:mkAV ti.agg ls=some y):StepSound P G o ev H { val:=y }:=by
  refine step_value fun E w a _ _ hops hbx=>?_
  have h1:=hops x (by rw [ho];simp [Op.operands])
  rw [hx] at h1
  obtain ⟨_,k,off,es,h2,h3,h4,h5⟩:=h1
  rcases subL_R h4 hls with ⟨h11,h12⟩|⟨h11,_⟩
  · have:=rangeAt_sub h5 0 ti.size
    rw [Nat.add_zero] at this
    obtain ⟨v,h13,h14⟩:=run_loadAt_cells ht this (by simp;omega) (unshutl h11) hy
    refine ⟨v,?_,h14⟩
    simp only [List.cons.injEq,and_true] at h2
    unfold execOp;rw [ho];dsimp only;rw [h2]
    simp [h13]
  · omega
def Box.put (bx:Box) (i:Nat) (ls:List Leaf):Box:={ bx with g:=fun j=>if j=i then ls else bx.g j }
theorem block_index {sz i j d e:Nat} (hd:d < sz) (he:e < sz) (h:i*sz+d=j*sz+e):i=j∧d=e:=by
  have h1:(i*sz+d) / sz=i:=by rw [Nat.mul_comm,Nat.mul_add_div (by omega),Nat.div_eq_of_lt hd];omega
  have h2:(j*sz+e) / sz=j:=by rw [Nat.mul_comm,Nat.mul_add_div (by omega),Nat.div_eq_of_lt he];omega
  have:i=j:=by rw [←h1,←h2,h]
  subst this;exact ⟨rfl,by omega⟩
theorem step_store {o:Oper} {T:TypeId} {x y:Operand} (ho:o.op= .store T x y) {ev:Operand→AV} {H:Nat→Option Box} {b sz i off:Nat} (hx:ev x= .one (.ptr b sz i off)) {bx:Box} (hb:H b=some bx) (hi:i < bx.n) (hsz:sz=bx.sz)
    {ti:TyI} (ht:tyI P T=some ti) {new ls:List Leaf} (hy:(ev y).leaves=some new) (hnew:sizes new=ti.size) (hls:setL (bx.g i) off ti.size new=some ls) (hle:off+ti.size≤bx.sz) :
    StepSound P G o ev H { val:=.u,eff:=.set b (bx.put i ls) }:=by
  intro nn ro E w a K Q hdf hE hG hops hbx _ hK
  have h1:=hops x (by rw [ho];simp [Op.operands])
  have h1':=leaves_R (hops y (by rw [ho];simp [Op.operands])) hy
  rw [hx] at h1
  obtain ⟨_,k,h2,h3⟩:=h1
  have hB:=hbx b (.inr rfl) bx hb
  obtain ⟨k',c,Tb,es,h4,h5,h6,h7,h8,h9,h10⟩:=hB.range hi
  rw [h2] at h4;cases h4
  have hl:=(LeavesR_len h1').1
  have hth:w.there k (i*sz+off) ((a.eval y).cells.toList).length:=by
    intro j hj
    have hin:i*sz+off+j < c.size:=by
      rw [hsz]
      have:(i+1)*bx.sz≤bx.n*bx.sz:=Nat.mul_le_mul_right _ hi
      rw [Nat.add_mul] at this
      omega
    refine ⟨?_,?_⟩
    · rw [cell_of_row w k _ c Tb (0,0) h5];simp [hin]
    · simp [World.frozen?,h5]
  have hrun:=run_storeAt_cells (P:=P) ht (v:=a.eval y) rfl (by omega) hth (fun c hc=>(LeavesR_len h1').2 c hc)
  refine wpIn_open hdf ?_
  unfold execOp
  rw [ho];dsimp only
  simp only [List.cons.injEq,and_true] at h3
  rw [h3]
  simp only [Sem.run_bind,hrun,Result.andThen_ok,Sem.run_pure]
  have hw:=wrote_setCells ((a.eval y).cells.toList) w k (i*sz+off)
  have hk:=keeps_wrote hw h2
  refine hK undef E _ trivial ⟨rfl,k,h2,hw,.inr ⟨k,_,Tb,h2,heap_setCells_same _ h5 _,by rw [setRange_size];exact h6,fun j hj=>?_⟩⟩
  rcases hB with ⟨_,hB0⟩|⟨k',c',T',h12,h13,h14,h15⟩
  · omega
  rw [h2] at h12;cases h12
  rw [h5] at h13;cases h13
  simp only [Box.put]
  by_cases e:j=i
  · subst e
    rw [if_pos rfl]
    have hset:=setL_R h8 h1' hls
    have hL:=(LeavesR_len hset).1
    refine ⟨_,?_,hk.leaves hset,fun d v hv=>?_⟩
    · show sizes ls=bx.sz
      simp only [List.length_append,List.length_take,List.length_drop] at hL
      omega
    · rw [setRange_get]
      have hd:d < es.length:=by
        have:=(List.getElem?_eq_some_iff.1 hv).1
        simp only [List.length_append,List.length_take,List.length_drop] at this
        omega
      have hin:j*bx.sz+d < c.size:=by
        have:(j+1)*bx.sz≤bx.n*bx.sz:=Nat.mul_le_mul_right _ hi
        rw [Nat.add_mul] at this
        omega
      rw [List.getElem?_append] at hv
      simp only [List.length_take] at hv
      split at hv
      · rename_i hlt
        rw [if_neg (by rw [hsz];omega)]
        rw [List.getElem?_take,if_pos (by omega)] at hv
        have:=h9 d v hv
        rwa [cell_of_row w k _ c Tb (0,0) h5] at this
      · rename_i hlt
        rw [List.getElem?_append] at hv
        split at hv
        · rename_i hlt2
          rw [if_pos (by rw [hsz];omega)]
          rw [←hv];congr 1;rw [hsz];omega
        · rename_i hlt2
          rw [if_neg (by rw [hsz];omega)]
          rw [List.getElem?_drop] at hv
          have:=h9 _ v hv
          rw [cell_of_row w k _ c Tb (0,0) h5] at this
          rw [←this];congr 1;omega
  · rw [if_neg e]
    obtain ⟨es',h16,h17,h18⟩:=h15 j hj
    refine ⟨es',h16,hk.leaves h17,fun d v hv=>?_⟩
    rw [setRange_get,if_neg]
    · exact h18 d v hv
    · rintro ⟨g1,g2,g3⟩
      have hd:d < bx.sz:=by
        have:=(List.getElem?_eq_some_iff.1 hv).1
        have:=(LeavesR_len h17).1
        omega
      have:j*bx.sz+d=i*bx.sz+(j*bx.sz+d - i*bx.sz):=by rw [hsz] at g1;omega
      have:=block_index hd (by rw [hsz] at g1 g2;omega) this
      exact e this.1
-- axioms of step_store
end Go.Ax
end
