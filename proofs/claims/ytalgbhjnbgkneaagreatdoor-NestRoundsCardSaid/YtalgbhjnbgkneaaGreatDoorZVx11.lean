/- Lemmas on the program and its library, part Vx11. -/
import Derived.Test.YtalgbhjnbgkneaaGreatDoorZVx9
set_option linter.unusedVariables false
set_option linter.unusedSimpArgs false
section
namespace Go.Vx
open Go.Ax
open Go.RowKit (Below)
def putT (N:Nat) (t:Tr VV) (d:Option Tmp) (v:VV):Option (Tr VV):=match d with
  | none=>some t
  | some d=>ifB (Nat.ble (d+1) N && Tr.fits d) (some (t.set d (some v)))
theorem putT_R {N:Nat} {t t':Tr VV} {d:Option Tmp} {v:VV} (e:putT N t d v=some t') {ρ:Nat→Ph} {a:Act} {x:Value} (h:TR ρ (tvf t) N a.tmps) (hx:v.R ρ x):TR ρ (tvf t') N (a.put d x).tmps:=by
  unfold putT at e
  split at e
  · cases e;exact h
  · rename_i d
    obtain ⟨h1,e⟩:=ifB_eq e
    cases e
    obtain ⟨h1,h2⟩:=and_t h1
    have h1:=le_t h1
    refine ⟨by simpa [Act.put] using h.1,fun n=>?_⟩
    rw [tvf_set h2]
    by_cases e:n=d
    · subst e
      have:n < a.tmps.size:=by rw [h.1];omega
      simpa [Act.put,Array.getD_eq_getD_getElem?,this] using hx
    · rw [if_neg e]
      have:(a.put (some d) x).tmps.getD n undef=a.tmps.getD n undef:=by
        simp [Act.put,Array.getD_eq_getD_getElem?,Array.getElem?_setIfInBounds_ne (Ne.symm e)]
      rw [this];exact h.2 n
theorem put_defers (a:Act) (d:Option Tmp) (x:Value):(a.put d x).defers=a.defers:=by cases d <;> rfl
def okOpd (ng:Nat):Operand→Bool
  | .tmp _=>true
  | .const v => match v with
    | .agg cs=>cs.toList.all (·.oneCell')
    | .tuple _=>true
    | v=>v.oneCell'
  | .global g=>Nat.ble (g+1) ng
  | .func _=>true
def okOps (ng:Nat) (ops:Array Oper):Bool:=ops.toList.all fun o=>o.op.operands.toList.all (okOpd ng)
theorem okOps_eq {ng:Nat} {ops:Array Oper} (h:okOps ng ops=true):∀o∈ops.toList,∀x∈o.op.operands,okOpd ng x=true:=by
  intro o ho x hx
  simp only [okOps,List.all_eq_true] at h
  exact h o ho x (by simpa using hx)
theorem evV_sound {w0:World} {ng:Nat} {ρ:Nat→Ph} {h:Nat→Option Blk} {w:World} (hw:WR w0 ng ρ h w) {t:Nat→VV} {N:Nat} {a:Act} (ht:TR ρ t N a.tmps) (x:Operand) (hx:okOpd ng x=true):(evV t x).R ρ (a.eval x):=by
  cases x with
  | tmp n=>exact ht.2 n
  | const v =>
    cases v with
    | agg cs =>
      obtain ⟨h1,h2⟩:=Rs_s (ρ:=ρ) cs.toList hx
      exact ⟨cs.toList,by simp [Act.eval],h1,h2⟩
    | tuple cs =>
      simp only [evV]
      split
      · rename_i hcs
        exact ⟨[],by simp only [Act.eval,Value.tuple.injEq];rw [←Array.toList_inj,hcs],rfl⟩
      · trivial
    | _=>exact ⟨rfl,hx⟩
  | global g =>
    obtain ⟨s,hs⟩:=hw.glob g (le_t hx)
    exact ⟨rfl,by rw [hs];rfl⟩
  | func f=>exact ⟨[],[],rfl,rfl,rfl⟩
def wantB (ops:Array Oper) (o:Oper) (t:Tr VV):Option Bool:=match o.guard with
  | none=>some true
  | some (j, want) => match nthO ops.toList j with
    | some d => match t.get d with
      | some (.s (.bool b))=>some (b == want)
      | some (.tup [])=>some false
      | _=>none
    | none=>none
theorem wantB_sound {ops:Array Oper} {o:Oper} {t:Tr VV} {r:Bool} (e:wantB ops o t=some r) {ρ:Nat→Ph} {N:Nat} {a:Act} (ht:TR ρ (tvf t) N a.tmps):Region.wanted o (yielded ops a.tmps)=r:=by
  unfold wantB at e
  unfold Region.wanted
  split at e
  · rename_i hg;cases e;simp [hg]
  · rename_i j want hg
    split at e
    · rename_i d hd
      rw [nthO_eq,Array.getElem?_toList] at hd
      split at e
      · rename_i b hb
        cases e
        have h5:=ht.2 d
        simp only [tvf,hb] at h5
        obtain ⟨h5,_⟩:=h5
        have h6:a.tmps[d]?=some (.bool b):=by
          rw [Array.getD_eq_getD_getElem?] at h5
          cases h:a.tmps[d]? with
          | none=>rw [h] at h5;cases h5
          | some x=>rw [h] at h5;simpa using h5
        simp only [hg,yielded,hd,Option.bind_some,h6]
        cases b <;> cases want <;> rfl
      · rename_i hb
        cases e
        have h5:=ht.2 d
        simp only [tvf,hb] at h5
        obtain ⟨vs,h5,h6⟩:=h5
        obtain rfl:vs= []:=h6
        simp only [hg,yielded,hd,Option.bind_some]
        rw [Array.getD_eq_getD_getElem?] at h5
        cases h:a.tmps[d]? with
        | none=>cases want <;> rfl
        | some x =>
          rw [h] at h5
          simp only [Option.getD_some] at h5
          subst h5
          cases want <;> rfl
      · cases e
    · cases e
section
variable (tt:TypeId→Option TyI) (ng:Nat) (call:CallF) (lim N:Nat) (ops:Array Oper)
def seqGo:List Oper→Tr VV→Sx→Option (Tr VV×Sx)
  | [],t,S=>some (t,S)
  | o :: rest, t, S => match wantB ops o t with
    | some true => match evOpr tt ng call lim S (evV (tvf t)) o with
      | some (v, S') => match putT N t o.dst v with
        | some t'=>seqGo rest t' S'
        | none=>none
      | none=>none
    | some false => match putT N t o.dst (.tup []) with
      | some t'=>seqGo rest t' S
      | none=>none
    | none=>none
end
section
variable {P:Program} {w0:World} {ng:Nat} {tt:TypeId→Option TyI} {call:CallF} {lim N:Nat} {ops:Array Oper}
theorem seqGo_sound (htt:TtOk P tt) (hcall:CallOk P w0 ng call) (hok:∀o∈ops.toList,∀x∈o.op.operands,okOpd ng x=true):∀(rest:List Oper) (k:Nat) (t:Tr VV) (S:Sx) (t':Tr VV) (S':Sx),seqGo tt ng call lim N ops rest t S=some (t',S')→
    (∀j,j < rest.length→rest[j]?=ops[k+j]?)→ng≤S.nb→lim≤S.nb→S.nb≤S'.nb∧(∀b,¬(lim≤b∧b < S'.nb)→S'.f b=S.f b)∧∀(n:Nat) (ro:Option Nat) (ρ:Nat→Ph) (w:World) (a:Act) (Q:Exit→Act→World→Prop),WR w0 ng ρ S.f w→(∀b,S.nb≤b→b < S'.nb→ρ b= .fresh)→TR ρ (tvf t) N a.tmps→
      (∀ρ' w' a',TR ρ' (tvf t') N a'.tmps→a'.defers=a.defers→WR w0 ng ρ' S'.f w'→Eff ρ w ρ' w' (fun b=>lim≤b∧b < S'.nb)→Q .normal a' w')→wpOpsIn (WF ro) n P ops Q (List.range' k rest.length) a w
  | [], k, t, S, t', S', e, _, hng, hlim => by
    simp only [seqGo,Option.some.injEq,Prod.mk.injEq] at e
    obtain ⟨rfl,rfl⟩:=e
    exact ⟨Nat.le_refl _,fun _ _=>rfl,fun n ro ρ w a Q hw hf ht hQ=>hQ ρ w a ht rfl hw (Eff.refl _ _ _)⟩
  | o :: rest, k, t, S, t', S', e, hr, hng, hlim => by
    have ho:ops[k]?=some o:=by have:=hr 0 (by simp);simpa using this.symm
    have hom:o∈ops.toList:=by
      have:=List.mem_of_getElem? (show ops.toList[k]?=some o by rw [Array.getElem?_toList];exact ho)
      exact this
    have hr':∀j,j < rest.length→rest[j]?=ops[k+1+j]?:=fun j hj=>by
      have:=hr (j+1) (by simp;omega)
      rw [show k+1+j=k+(j+1) by omega];simpa using this
    simp only [seqGo] at e
    split at e
    · rename_i hwant
      split at e
      · rename_i v S1 hop
        split at e
        · rename_i t1 hput
          obtain ⟨h1,h1',h2⟩:=evOpr_sound htt hcall hng hlim hop
          obtain ⟨h3,h3',h4⟩:=seqGo_sound htt hcall hok rest (k+1) t1 S1 t' S' e hr' (by omega) (by omega)
          refine ⟨by omega,fun b hb=>(h3' b hb).trans (h1' b (by omega)),fun n ro ρ w a Q hw hf ht hQ=>?_⟩
          rw [List.length_cons,List.range'_succ,wpOpsIn_cons]
          unfold wpOpIn
          rw [ho];dsimp only
          rw [wantB_sound hwant ht]
          simp only [if_true]
          refine h2 n ro ρ w a _ Q hw (fun b hb hb'=>hf b hb (by omega)) (fun x hx=>evV_sound hw ht x (hok o hom x hx)) fun v' w' ⟨ρ',q1,q2,q4⟩=>?_
          refine h4 n ro ρ' w' _ Q q2 (fun b hb hb'=>(q4.same b (by omega)).trans (hf b (by omega) hb')) (putT_R hput ⟨ht.1,fun n=>(ht.2 n).ext q4.ext⟩ q1) fun ρ'' w'' a' p1 p2 p3 p5=>?_
          exact hQ ρ'' w'' a' p1 (p2.trans (put_defers _ _ _)) p3 ((q4.mono fun b hb=>⟨hb.1,by omega⟩).trans p5)
        · cases e
      · cases e
    · rename_i hwant
      split at e
      · rename_i t1 hput
        obtain ⟨h3,h3',h4⟩:=seqGo_sound htt hcall hok rest (k+1) t1 S t' S' e hr' hng hlim
        refine ⟨h3,h3',fun n ro ρ w a Q hw hf ht hQ=>?_⟩
        rw [List.length_cons,List.range'_succ,wpOpsIn_cons]
        unfold wpOpIn
        rw [ho];dsimp only
        rw [wantB_sound hwant ht]
        simp only [Bool.false_eq_true,if_false]
        refine ⟨fun _ _=>trivial,?_⟩
        refine h4 n ro ρ w _ Q hw hf (putT_R hput ht ⟨[],rfl,rfl⟩) fun ρ'' w'' a' p1 p2 p3 p5=>?_
        exact hQ ρ'' w'' a' p1 (p2.trans (put_defers _ _ _)) p3 p5
      · cases e
    · cases e
end
end Go.Vx
end
section
namespace Go.Vx
open Go.Ax (setAdd left left_add ready_iff looksAt_operand looksAt_guard)
open Go.RowKit (Below)
structure Rc where
  dst:Option Tmp
  ran:Bool
  val:VV
  view:Nat→Option Blk
  post:Nat→Option Blk
  mod:Nat→Bool
  new:Nat→Bool
def tAt (t:Nat→VV) (tr:Nat→Rc) (S:Nat→Bool):Nat→Nat→VV
  | 0,n=>t n
  | k+1,n=>if S k=true∧(tr k).dst=some n then (tr k).val else tAt t tr S k n
def hAt (h:Nat→Option Blk) (tr:Nat→Rc) (S:Nat→Bool):Nat→Nat→Option Blk
  | 0,b=>h b
  | k+1,b=>if S k=true∧(tr k).mod b=true then (tr k).post b else hAt h tr S k b
theorem tAt_congr {t:Nat→VV} {tr:Nat→Rc} {S S':Nat→Bool} {n:Nat}:∀{k:Nat},(∀j,j < k→(tr j).dst=some n→S j=S' j)→tAt t tr S k n=tAt t tr S' k n
  | 0,_=>rfl
  | k + 1, h => by
    have ih:=tAt_congr (t:=t) (k:=k) (fun j hj hd=>h j (Nat.lt_succ_of_lt hj) hd)
    simp only [tAt]
    by_cases hd:(tr k).dst=some n
    · rw [h k (Nat.lt_succ_self k) hd,ih]
    · simp [hd,ih]
theorem hAt_congr {h:Nat→Option Blk} {tr:Nat→Rc} {S S':Nat→Bool} {b:Nat}:∀{k:Nat},(∀j,j < k→(tr j).mod b=true→S j=S' j)→hAt h tr S k b=hAt h tr S' k b
  | 0,_=>rfl
  | k + 1, hh => by
    have ih:=hAt_congr (h:=h) (k:=k) (fun j hj hd=>hh j (Nat.lt_succ_of_lt hj) hd)
    simp only [hAt]
    by_cases hd:(tr k).mod b=true
    · rw [hh k (Nat.lt_succ_self k) hd,ih]
    · simp [hd,ih]
theorem tAt_last {t:Nat→VV} {tr:Nat→Rc} {S:Nat→Bool} {n j:Nat} (hS:S j=true) (hj:(tr j).dst=some n) :
    ∀{k:Nat},j < k→(∀i,j < i→i < k→(tr i).dst=some n→S i=false)→tAt t tr S k n=(tr j).val
  | 0,h,_=>absurd h (by omega)
  | k + 1, hlt, h => by
    simp only [tAt]
    by_cases e:k=j
    · subst e;simp [hS,hj]
    · have:¬(S k=true∧(tr k).dst=some n):=fun ⟨a,b⟩=>by have:=h k (by omega) (by omega) b;rw [this] at a;cases a
      rw [if_neg this]
      exact tAt_last hS hj (by omega) (fun i h1 h2=>h i h1 (by omega))
theorem hAt_last {h:Nat→Option Blk} {tr:Nat→Rc} {S:Nat→Bool} {b j:Nat} (hS:S j=true) (hj:(tr j).mod b=true) :
    ∀{k:Nat},j < k→(∀i,j < i→i < k→(tr i).mod b=true→S i=false)→hAt h tr S k b=(tr j).post b
  | 0,hlt,_=>absurd hlt (by omega)
  | k + 1, hlt, hh => by
    simp only [hAt]
    by_cases e:k=j
    · subst e;simp [hS,hj]
    · have:¬(S k=true∧(tr k).mod b=true):=fun ⟨a,c⟩=>by have:=hh k (by omega) (by omega) c;rw [this] at a;cases a
      rw [if_neg this]
      exact hAt_last hS hj (by omega) (fun i h1 h2=>hh i h1 (by omega))
theorem tAt_prefix {t:Nat→VV} {tr:Nat→Rc} {n i:Nat}:∀{k:Nat},i≤k→tAt t tr (fun j=>decide (j < i)) k n=tAt t tr (fun _=>true) i n
  | 0, h => by obtain rfl : i = 0 := by omega
               rfl
  | k + 1, h => by
    by_cases e:i=k+1
    · subst e;exact tAt_congr fun j hj _=>by simp;omega
    · simp only [tAt]
      rw [if_neg (by simp;omega)]
      exact tAt_prefix (by omega)
theorem hAt_prefix {h:Nat→Option Blk} {tr:Nat→Rc} {b i:Nat}:∀{k:Nat},i≤k→hAt h tr (fun j=>decide (j < i)) k b=hAt h tr (fun _=>true) i b
  | 0, hi => by obtain rfl : i = 0 := by omega
                rfl
  | k + 1, hi => by
    by_cases e:i=k+1
    · subst e;exact hAt_congr fun j hj _=>by simp;omega
    · simp only [hAt]
      rw [if_neg (by simp;omega)]
      exact hAt_prefix (by omega)
def StepR (P:Program) (w0:World) (ng:Nat) (o:Oper) (ev:Operand→VV) (d:Rc):Prop:=
  ∀(n:Nat) (ro:Option Nat) (ρ:Nat→Ph) (w:World) (a:Act) (K:Act→World→Prop) (Q:Exit→Act→World→Prop),WR w0 ng ρ d.view w→(∀b,d.new b=true→ρ b= .fresh)→(∀x∈o.op.operands,(ev x).R ρ (a.eval x))→
    (∀v ρ' w',d.val.R ρ' v→WR w0 ng ρ' d.post w'→Eff ρ w ρ' w' (fun b=>d.mod b=true)→K (a.put o.dst v) w')→o.wpIn (WF ro) n P a w K Q
structure TrOk (P:Program) (w0:World) (ng N:Nat) (ops:Array Oper) (t:Nat→VV) (h:Nat→Option Blk) (tr:Nat→Rc) (anc:Nat→Nat→Bool):Prop where
  dst:∀(i:Nat) (o:Oper),ops[i]?=some o→(tr i).dst=o.dst
  want:∀(i:Nat) (o:Oper),ops[i]?=some o→∀(ρ:Nat→Ph) (tmps:Array Value),(∀d∈o.looksAt ops,(tAt t tr (fun _=>true) i d).R ρ (tmps.getD d undef))→Region.wanted o (yielded ops tmps)=(tr i).ran
  step:∀(i:Nat) (o:Oper),ops[i]?=some o→(tr i).ran=true→StepR P w0 ng o (evV (tAt t tr (fun _=>true) i)) (tr i)
  skip:∀i,i < ops.size→(tr i).ran=false→(tr i).val= .tup []∧∀b,(tr i).mod b=false
  view:∀i b z,i < ops.size→(tr i).ran=true→(tr i).view b=some z→hAt h tr (fun _=>true) i b=some z
  cst:∀(i:Nat) (o:Oper),ops[i]?=some o→∀x∈o.op.operands,okOpd ng x=true
  looks:∀(i:Nat) (o:Oper),ops[i]?=some o→∀d∈o.looksAt ops,∀j,j < ops.size→(tr j).dst=some d→i=j∨(j < i∧anc i j=true)∨(i < j∧anc j i=true)
  dst1:∀i j d,i < ops.size→j < ops.size→(tr i).dst=some d→(tr j).dst=some d→i=j
  dstN:∀i d,i < ops.size→(tr i).dst=some d→d < N
  mods:∀i j b,i < ops.size→j < ops.size→i≠j→(tr j).mod b=true→((tr i).ran=true∧(∃z,(tr i).view b=some z)∨(tr i).mod b=true)→(j < i∧anc i j=true)∨(i < j∧anc j i=true)
  new:∀i b,i < ops.size→(tr i).new b=true→(tr i).mod b=true
  new1:∀i j b,i < ops.size→j < ops.size→i < j→(tr j).new b=true→(tr i).mod b=false
  back:∀(i:Nat) (o:Oper),ops[i]?=some o→∀e∈o.after,Region.binds .any e=true→e.on < i
  anc:∀S:Nat→Bool,(∀(i:Nat) (o:Oper),ops[i]?=some o→S i=true→∀e∈o.after,Region.binds .any e=true→S e.on=true)→
    ∀(i:Nat) (o:Oper),ops[i]?=some o→(∀e∈o.after,Region.binds .any e=true→S e.on=true)→∀j,anc i j=true→S j=true
def Closed (ops:Array Oper) (S:Nat→Bool):Prop:=
  ∀(i:Nat) (o:Oper),ops[i]?=some o→S i=true→∀e∈o.after,Region.binds .any e=true→S e.on=true
structure Inv (w0:World) (ng N:Nat) (ops:Array Oper) (t:Nat→VV) (h:Nat→Option Blk) (tr:Nat→Rc) (ds:List Deferred) (ρ0:Nat→Ph) (wS:World) (S:Nat→Bool) (a:Act) (w:World):Prop where
  closed:Closed ops S
  out:∀i,ops.size≤i→S i=false
  defers:a.defers=ds
  sr:∃ρ,WR w0 ng ρ (hAt h tr S ops.size) w∧TR ρ (tAt t tr S ops.size) N a.tmps∧(∀i b,i < ops.size→S i=false→(tr i).new b=true→ρ b= .fresh)∧Eff ρ0 wS ρ w (fun b=>∃i,i < ops.size∧(tr i).mod b=true)
section
variable {P:Program} {w0:World} {ng N:Nat} {ops:Array Oper} {t:Nat→VV} {h:Nat→Option Blk} {tr:Nat→Rc} {anc:Nat→Nat→Bool} {ds:List Deferred} {ρ0:Nat→Ph} {wS:World} {ro:Option Nat} {n:Nat}
theorem Inv.step (ok:TrOk P w0 ng N ops t h tr anc) {S:Nat→Bool} {a:Act} {w:World} (I:Inv w0 ng N ops t h tr ds ρ0 wS S a w) {i:Nat} (hi:i < ops.size) (hS:S i=false)
    (hr:∀o,ops[i]?=some o→∀e∈o.after,Region.binds .any e=true→S e.on=true) {Q:Exit→Act→World→Prop} {K:Act→World→Prop} (hK:∀a w,Inv w0 ng N ops t h tr ds ρ0 wS (setAdd S i) a w→K a w):wpOpIn (WF ro) n P ops Q i K a w:=by
  obtain ⟨o,ho⟩:∃o,ops[i]?=some o:=⟨ops[i],by simp [hi]⟩
  have hro:=hr o ho
  obtain ⟨ρ,s1,s2,s3,s4⟩:=I.sr
  have hanc:=ok.anc S I.closed
  have later:∀j,j < ops.size→anc j i=true→S j=false:=fun j hj h2=>by
    cases hSj:S j with
    | false=>rfl
    | true =>
      have hj':ops[j]?=some ops[j]:=by simp [hj]
      have:=hanc j _ hj' (fun e he hb=>I.closed j _ hj' hSj e he hb) i h2
      rw [this] at hS;cases hS
  have hslot:∀d∈o.looksAt ops,tAt t tr S ops.size d=tAt t tr (fun _=>true) i d:=by
    intro d hd
    rw [←tAt_prefix (Nat.le_of_lt hi)]
    refine tAt_congr fun j hj hjd=>?_
    rcases ok.looks i o ho d hd j hj hjd with e|⟨h1,h2⟩|⟨h1,h2⟩
    · subst e;simp [hS]
    · simp [h1,hanc i o ho hro j h2]
    · have:¬j < i:=by omega
      simp [this,later j hj h2]
  have hbox:(tr i).ran=true→∀b z,(tr i).view b=some z→hAt h tr S ops.size b=some z:=by
    intro hran b z hb
    rw [←ok.view i b z hi hran hb,←hAt_prefix (Nat.le_of_lt hi)]
    refine hAt_congr fun j hj hjb=>?_
    by_cases e:i=j
    · subst e;simp [hS]
    · rcases ok.mods i j b hi hj e hjb (.inl ⟨hran,z,hb⟩) with ⟨h1,h2⟩|⟨h1,h2⟩
      · simp [h1,hanc i o ho hro j h2]
      · have:¬j < i:=by omega
        simp [this,later j hj h2]
  have hops:∀x∈o.op.operands,(evV (tAt t tr (fun _=>true) i) x).R ρ (a.eval x):=by
    intro x hx
    have h1:=evV_sound s1 s2 x (ok.cst i o ho x hx)
    cases x with
    | tmp d =>
      have:=hslot d (looksAt_operand hx)
      simp only [evV] at h1 ⊢
      rwa [this] at h1
    | _=>exact h1
  have hwant:Region.wanted o (yielded ops a.tmps)=(tr i).ran:=ok.want i o ho ρ a.tmps (fun d hd=>by rw [←hslot d hd];exact s2.2 d)
  have hcl:Closed ops (setAdd S i):=by
    intro j o' hj hSj e he hb
    by_cases ej:j=i
    · subst ej;rw [ho] at hj;cases hj;simp [setAdd,hro e he hb]
    · have:S j=true:=by simpa [setAdd,ej] using hSj
      simp [setAdd,I.closed j o' hj this e he hb]
  have hout:∀j,ops.size≤j→setAdd S i j=false:=by
    intro j hj
    have:¬j=i:=by omega
    simp [setAdd,this,I.out j hj]
  have hSi:setAdd S i i=true:=by simp [setAdd]
  have hSne:∀j,j≠i→setAdd S i j=S j:=fun j hj=>by simp [setAdd,hj]
  have hts:∀m,((tr i).dst=some m→tAt t tr (setAdd S i) ops.size m=(tr i).val)∧((tr i).dst≠some m→tAt t tr (setAdd S i) ops.size m=tAt t tr S ops.size m):=by
    intro m
    refine ⟨fun hd=>tAt_last hSi hd hi fun j h1 h2 h3=>?_,fun hd=>tAt_congr fun j hj hjd=>?_⟩
    · have:=ok.dst1 i j m hi h2 hd h3;omega
    · exact hSne j fun e=>hd (e ▸ hjd)
  have hput:∀{ρ':Nat→Ph} {v:Value},Ext ρ ρ'→(tr i).val.R ρ' v→TR ρ' (tAt t tr (setAdd S i) ops.size) N (a.put o.dst v).tmps:=by
    intro ρ' v hE hv
    have hd:=ok.dst i o ho
    cases hdd:o.dst with
    | none =>
      refine ⟨s2.1,fun m=>?_⟩
      rw [(hts m).2 (by rw [hd,hdd];simp)]
      exact (s2.2 m).ext hE
    | some d =>
      refine ⟨by simpa [Act.put] using s2.1,fun m=>?_⟩
      by_cases e:m=d
      · subst e
        rw [(hts m).1 (by rw [hd,hdd])]
        have:m < a.tmps.size:=by rw [s2.1];exact ok.dstN i m hi (by rw [hd,hdd])
        simpa [Act.put,Array.getD_eq_getD_getElem?,this] using hv
      · rw [(hts m).2 (by rw [hd,hdd];simpa using Ne.symm e)]
        have:(a.put (some d) v).tmps.getD m undef=a.tmps.getD m undef:=by
          simp [Act.put,Array.getD_eq_getD_getElem?,Array.getElem?_setIfInBounds_ne (Ne.symm e)]
        rw [this];exact (s2.2 m).ext hE
  unfold wpOpIn
  rw [ho];dsimp only
  rw [hwant]
  cases hran:(tr i).ran with
  | false =>
    simp only [Bool.false_eq_true,if_false]
    obtain ⟨k1,k2⟩:=ok.skip i hi hran
    refine ⟨fun _ _=>trivial,hK _ _ ⟨hcl,hout,(put_defers _ _ _).trans I.defers,ρ,?_,hput (Ext.refl _) (by rw [k1];exact ⟨[],rfl,rfl⟩),fun j b hj hSj hb=>s3 j b hj ?_ hb,s4⟩⟩
    · have:hAt h tr (setAdd S i) ops.size=hAt h tr S ops.size:=funext fun b=>hAt_congr fun j hj hjb=>hSne j fun e=>by subst e;rw [k2 b] at hjb;cases hjb
      rw [this];exact s1
    · by_cases e:j=i
      · subst e;rw [hSi] at hSj;cases hSj
      · rwa [hSne j e] at hSj
  | true =>
    simp only [if_true]
    refine ok.step i o ho hran n ro ρ w a K Q (s1.sub (hbox hran)) (fun b hb=>s3 i b hi hS hb) hops fun v ρ' w' q1 q2 q3=>hK _ _ ⟨hcl,hout,(put_defers _ _ _).trans I.defers,ρ',⟨fun b z hz=>?_,q2.own,q2.lt,q2.inj,q2.below,q2.glob⟩,hput q3.ext q1,fun j b hj hSj hb=>?_,s4.trans (q3.mono fun b hb=>⟨i,hi,hb⟩)⟩
    · cases hm:(tr i).mod b with
      | true =>
        have:hAt h tr (setAdd S i) ops.size b=(tr i).post b:=hAt_last hSi hm hi fun j h1 h2 h3=>by
          rw [hSne j (by omega)]
          rcases ok.mods i j b hi h2 (by omega) h3 (.inr hm) with ⟨h5,_⟩|⟨_,h6⟩
          · omega
          · exact later j h2 h6
        rw [this] at hz
        exact q2.blk b z hz
      | false =>
        have:hAt h tr (setAdd S i) ops.size b=hAt h tr S ops.size b:=hAt_congr fun j hj hjb=>hSne j fun e=>by subst e;rw [hm] at hjb;cases hjb
        rw [this] at hz
        exact s1.keep q3 (by rw [hm];simp) hz
    · have hji:j≠i:=fun e=>by subst e;rw [hSi] at hSj;cases hSj
      rw [hSne j hji] at hSj
      rw [q3.same b ?_]
      · exact s3 j b hj hSj hb
      · intro hm
        rcases Nat.lt_or_ge i j with h1|h1
        · rw [ok.new1 i j b hi hj h1 hb] at hm;cases hm
        · rcases ok.mods i j b hi hj (Ne.symm hji) (ok.new j b hj hb) (.inr hm) with ⟨h2,h3⟩|⟨h2,_⟩
          · rw [hanc i o ho hro j h3] at hSj;cases hSj
          · omega
theorem wpAny_inv (ok:TrOk P w0 ng N ops t h tr anc) {Q:Exit→Act→World→Prop} (hQ:∀a w,Inv w0 ng N ops t h tr ds ρ0 wS (fun i=>decide (i < ops.size)) a w→Q .normal a w) :
    ∀(fuel:Nat) (listed:Array Bool) (a:Act) (w:World),listed.size=ops.size→left ops.size (fun i=>listed.getD i false)≤fuel→
      Inv w0 ng N ops t h tr ds ρ0 wS (fun i=>listed.getD i false) a w→wpAnyIn (WF ro) n P .any ops Q fuel listed a w:=by
  have hend:∀(listed:Array Bool) (a:Act) (w:World),listed.size=ops.size→Inv w0 ng N ops t h tr ds ρ0 wS (fun i=>listed.getD i false) a w→Region.ready .any ops listed= []→Q .normal a w:=by
    intro listed a w hs I hr
    refine hQ a w ?_
    have hall:∀n i,i < n→i < ops.size→listed.getD i false=true:=by
      intro n
      induction n with
      | zero=>intro i h;omega
      | succ n ih =>
        intro i h1 h2
        cases hl:listed.getD i false with
        | true=>rfl
        | false =>
          have ho:ops[i]?=some ops[i]:=by simp [h2]
          have:i∈Region.ready .any ops listed:=by
            refine ready_iff.2 ⟨h2,?_,_,ho,fun e he hb=>?_⟩
            · have:i < listed.size:=by omega
              simpa [Array.getD_eq_getD_getElem?,this] using hl
            · have:=ok.back i _ ho e he hb
              exact ih e.on (by omega) (by omega)
          rw [hr] at this;cases this
    have:(fun i=>listed.getD i false)=fun i=>decide (i < ops.size):=by
      funext i
      by_cases h:i < ops.size
      · simp [h,hall (i+1) i (by omega) h]
      · have:listed[i]?=none:=Array.getElem?_eq_none (by omega)
        simp [h,Array.getD_eq_getD_getElem?,this]
    rw [←this];exact I
  intro fuel
  induction fuel with
  | zero =>
    intro listed a w hs hl I
    have hr:Region.ready .any ops listed= []:=by
      refine List.eq_nil_iff_forall_not_mem.2 fun i hi=>?_
      obtain ⟨h1,h2,_⟩:=ready_iff.1 hi
      have:listed.getD i false=false:=by
        have:i < listed.size:=by omega
        simpa [Array.getD_eq_getD_getElem?,this] using h2
      have:=left_add (S:=fun i=>listed.getD i false) h1 this
      omega
    exact ⟨hr,hend listed a w hs I hr⟩
  | succ fuel ih =>
    intro listed a w hs hl I
    refine ⟨hend listed a w hs I,fun i hi=>?_⟩
    obtain ⟨h1,h2,o,ho,h3⟩:=ready_iff.1 hi
    have hli:i < listed.size:=by omega
    have h2':listed.getD i false=false:=by simpa [Array.getD_eq_getD_getElem?,hli] using h2
    have hset:(fun j=>(listed.setIfInBounds i true).getD j false)=setAdd (fun j=>listed.getD j false) i:=by
      funext j
      by_cases e:j=i
      · subst e;simp [setAdd,Array.getD_eq_getD_getElem?,hli]
      · have:i≠j:=fun h=>e h.symm
        simp [setAdd,e,Array.getD_eq_getD_getElem?,Array.getElem?_setIfInBounds_ne this]
    refine I.step ok h1 h2' (fun o' ho' e he hb=>?_) fun a w I'=>?_
    · rw [ho] at ho';cases ho';exact h3 e he hb
    · refine ih _ a w (by simpa using hs) ?_ ?_
      · rw [hset]
        have:=left_add (S:=fun i=>listed.getD i false) h1 h2'
        omega
      · rw [hset];exact I'
theorem region_any (hm:P.follows .mixedOrders=true) {id:Nat} {a:Act} {w:World} {ρ:Nat→Ph} (hw:WR w0 ng ρ h w) (ht:TR ρ t N a.tmps) (ok:TrOk P w0 ng N ops t h tr anc) (hf:∀i b,i < ops.size→(tr i).new b=true→ρ b= .fresh) {Q:Exit→Act→World→Prop}
    (hQ:∀ρ' a' w',WR w0 ng ρ' (hAt h tr (fun _=>true) ops.size) w'→TR ρ' (tAt t tr (fun _=>true) ops.size) N a'.tmps→a'.defers=a.defers→Eff ρ w ρ' w' (fun b=>∃i,i < ops.size∧(tr i).mod b=true)→Q .normal a' w'):(Code.region id ops true).wpIn (WF ro) n P Q a w:=by
  have hB:Below w.heap.size w { w with drawn:=w.drawn+1 }:=⟨rfl,rfl,rfl,Nat.le_refl _,fun _ _=>rfl⟩
  have hE:Eff ρ w ρ { w with drawn:=w.drawn+1 } (fun b=>∃i,i < ops.size∧(tr i).mod b=true):=⟨Ext.refl _,fun _ _=>rfl,fun _ _ _=>rfl,fun _ _ _ h g=>absurd g h,Nat.le_refl _,rfl,rfl,rfl⟩
  refine wpIn_region_any hm (wpAny_inv (ds:=a.defers) (ρ0:=ρ) (wS:=w) ok (fun a' w' I=>?_) _ _ _ _ (by simp) ?_ ?_)
  · obtain ⟨ρ',s1,s2,s3,s4⟩:=I.sr
    have e1:tAt t tr (fun i=>decide (i < ops.size)) ops.size=tAt t tr (fun _=>true) ops.size:=funext fun n=>tAt_prefix (Nat.le_refl _)
    have e2:hAt h tr (fun i=>decide (i < ops.size)) ops.size=hAt h tr (fun _=>true) ops.size:=funext fun n=>hAt_prefix (Nat.le_refl _)
    rw [e1] at s2;rw [e2] at s1
    exact hQ ρ' a' w' s1 s2 I.defers s4
  · unfold left;exact Nat.le_trans (List.length_filter_le _ _) (by simp)
  · have e0:(fun i=>(Array.replicate ops.size false).getD i false)=fun _=>false:=by
      funext i
      by_cases h:i < ops.size <;> simp [Array.getD_eq_getD_getElem?,h]
    have e1:∀k,tAt t tr (fun _=>false) k=t:=by
      intro k;funext n
      induction k with
      | zero=>rfl
      | succ k ih=>simp [tAt,ih]
    have e2:∀k,hAt h tr (fun _=>false) k=h:=by
      intro k;funext n
      induction k with
      | zero=>rfl
      | succ k ih=>simp [hAt,ih]
    rw [e0]
    refine ⟨fun _ _ _ h=>(by cases h),fun _ _=>rfl,rfl,ρ,?_⟩
    rw [e1,e2]
    refine ⟨⟨fun b z hz=>?_,hw.own,hw.lt,hw.inj,⟨hw.below.os,hw.below.tape,hw.below.output,hw.below.size,hw.below.block⟩,hw.glob⟩,ht,fun i b hi _ hb=>hf i b hi hb,hE⟩
    obtain ⟨k,s,h1,h2⟩:=hw.blk b z hz
    exact ⟨k,s,h1,h2.keep (Ext.refl _) rfl⟩
end
end Go.Vx
end
section
namespace Go.Vx
open Go.Ax (TtOk TyI nthO nthO_eq backOk backOk_spec ancOf masks anc_spec slotsOk drawOk constOk looksAt_guard)
open Go.RowKit (Below)
structure Dv where
  lo:Nat
  hi:Nat
  old:Option Nat
  rd:Option (List Nat)
def memB (b:Nat):List Nat→Bool
  | []=>false
  | c :: r=>Nat.beq c b || memB b r
theorem memB_iff {b:Nat}:∀{l:List Nat},memB b l=true↔b∈l
  | []=>by simp [memB]
  | c :: r => by
    simp only [memB,Bool.or_eq_true,List.mem_cons,memB_iff (l:=r),beq_t,decide_eq_true_eq]
    constructor
    · rintro (h|h)
      · exact .inl h.symm
      · exact .inr h
    · rintro (h|h)
      · exact .inl h.symm
      · exact .inr h
def isOld (o:Option Nat) (b:Nat):Bool:=match o with
  | some c=>Nat.beq c b
  | none=>false
def effB (d:Dv) (b:Nat):Bool:=isOld d.old b || (Nat.ble d.lo b && Nat.ble (b+1) d.hi)
def noEff (d:Dv):Bool:=d.old.isNone && Nat.ble d.hi d.lo
def exclB (m b:Nat):List Dv→Nat→Bool
  | [],_=>false
  | d :: r,j=>(!(m.testBit j) && effB d b) || exclB m b r (j+1)
def calmB (m:Nat):List Dv→Nat→Bool
  | [],_=>true
  | d :: r,j=>(m.testBit j || noEff d) && calmB m r (j+1)
def blindB (m b:Nat):List Dv→Nat→Bool
  | [],_=>true
  | d :: r,j=>(m.testBit j || (match d.rd with|some l=>!(memB b l)|none=>false)) && blindB m b r (j+1)
def allB (m:Nat):Nat→Bool
  | 0=>true
  | k+1=>m.testBit k && allB m k
def laterB (i:Nat):List Nat→Bool
  | []=>true
  | m :: r=>m.testBit i && laterB i r
theorem exclB_get {m b:Nat}:∀{l:List Dv} {j:Nat},exclB m b l j=false→∀k d,l[k]?=some d→m.testBit (j+k)=false→effB d b=false
  | [],_,_,k,d,h,_=>by simp at h
  | x :: r, j, e, 0, d, h, hm => by
    simp only [List.getElem?_cons_zero,Option.some.injEq] at h
    subst h
    simp only [exclB,Bool.or_eq_false_iff] at e
    rw [Nat.add_zero] at hm
    simpa [hm] using e.1
  | x :: r, j, e, k + 1, d, h, hm => by
    simp only [exclB,Bool.or_eq_false_iff] at e
    exact exclB_get e.2 k d (by simpa using h) (by rwa [show j+1+k=j+(k+1) by omega])
theorem calmB_get {m:Nat}:∀{l:List Dv} {j:Nat},calmB m l j=true→∀k d,l[k]?=some d→m.testBit (j+k)=false→noEff d=true
  | [],_,_,k,d,h,_=>by simp at h
  | x :: r, j, e, 0, d, h, hm => by
    simp only [List.getElem?_cons_zero,Option.some.injEq] at h
    subst h
    simp only [calmB,Bool.and_eq_true] at e
    rw [Nat.add_zero] at hm
    simpa [hm] using e.1
  | x :: r, j, e, k + 1, d, h, hm => by
    simp only [calmB,Bool.and_eq_true] at e
    exact calmB_get e.2 k d (by simpa using h) (by rwa [show j+1+k=j+(k+1) by omega])
theorem blindB_get {m b:Nat}:∀{l:List Dv} {j:Nat},blindB m b l j=true→∀k d,l[k]?=some d→m.testBit (j+k)=false→∃rd,d.rd=some rd∧b∉rd
  | [],_,_,k,d,h,_=>by simp at h
  | x :: r, j, e, 0, d, h, hm => by
    simp only [List.getElem?_cons_zero,Option.some.injEq] at h
    subst h
    simp only [blindB,Bool.and_eq_true] at e
    rw [Nat.add_zero] at hm
    have e1:=e.1
    rw [hm,Bool.false_or] at e1
    split at e1
    · rename_i l hl
      refine ⟨l,hl,fun h=>?_⟩
      rw [memB_iff.2 h] at e1;cases e1
    · cases e1
  | x :: r, j, e, k + 1, d, h, hm => by
    simp only [blindB,Bool.and_eq_true] at e
    exact blindB_get e.2 k d (by simpa using h) (by rwa [show j+1+k=j+(k+1) by omega])
theorem allB_get {m:Nat}:∀{k:Nat},allB m k=true→∀j,j < k→m.testBit j=true
  | 0,_,j,h=>by omega
  | k + 1, e, j, h => by
    simp only [allB,Bool.and_eq_true] at e
    by_cases hj:j=k
    · subst hj;exact e.1
    · exact allB_get e.2 j (by omega)
theorem laterB_get {i:Nat}:∀{l:List Nat},laterB i l=true→∀(k m:Nat),l[k]?=some m→m.testBit i=true
  | [],_,k,m,h=>by simp at h
  | x :: r, e, 0, m, h => by
    simp only [List.getElem?_cons_zero,Option.some.injEq] at h
    subst h
    simp only [laterB,Bool.and_eq_true] at e
    exact e.1
  | x :: r, e, k + 1, m, h => by
    simp only [laterB,Bool.and_eq_true] at e
    exact laterB_get e.2 k m (by simpa using h)
def idsV:VV→List Nat
  | .p b _=> [b]
  | .sl b _ _ _ _=> [b]
  | .z0 b _=> [b]
  | .yl b=> [b]
  | _=> []
def idsO (ev:Operand→VV):List Operand→List Nat
  | []=> []
  | x :: r=>idsV (ev x)++idsO ev r
def rdO (ev:Operand→VV) (o:Oper):List Nat:=match o.op with
  | .move _=> []
  | .assign _=> []
  | .pick _ _ _=> []
  | .box _ _=> []
  | .alloc _=> []
  | .build _ _=> []
  | .buildSlice _ _ _=> []
  | .makeFunc _ _ _=> []
  | .extract _ _=> []
  | .store _ x _=>idsV (ev x)
  | _=>idsO ev o.op.operands.toList
def isCall (o:Oper):Bool:=match o.op with
  | .call { callee:=.value _,args:=_,argTypes:=_ }=>true
  | _=>false
def viewF (S:Sx) (m:Nat) (acc:List Dv) (rd:List Nat) (b:Nat):Option Blk:=match memB b rd with
  | true => match exclB m b acc 0 with
    | true=>none
    | false=>S.f b
  | false=>none
section
variable (tt:TypeId→Option TyI) (ng:Nat) (call:CallF) (lim N:Nat) (ops:Array Oper)
def drGo:List Oper→List Nat→Nat→Tr VV→Sx→List Dv→Option (Tr VV×Sx)
  | [],_,_,t,S,_=>some (t,S)
  | _ :: _,[],_,_,_,_=>none
  | o :: rest, m :: ms, i, t, S, acc => match wantB ops o t with
    | some true => match isCall o with
      | true => match calmB m acc 0 with
        | true => match (match allB m i && laterB i ms with | true => evOpr tt ng call lim S (evV (tvf t)) o | false => evOpr tt ng call S.nb S (evV (tvf t)) o) with
          | some (v, S') => match putT N t o.dst v with
            | some t'=>drGo rest ms (i+1) t' S' (acc++ [⟨S.nb,S'.nb,none,none⟩])
            | none=>none
          | none=>none
        | false=>none
      | false => match evOp2 tt ng lim S.nb (viewF S m acc (rdO (evV (tvf t)) o)) (evV (tvf t)) o with
        | some (v, u) => match u.ap S with
          | some S' => match putT N t o.dst v, (match u.old with | some b => blindB m b acc 0 && !(exclB m b acc 0) | none => true) with
            | some t',true=>drGo rest ms (i+1) t' S' (acc++ [⟨S.nb,S'.nb,u.old,some (rdO (evV (tvf t)) o)⟩])
            | _,_=>none
          | none=>none
        | none=>none
    | some false => match putT N t o.dst (.tup []) with
      | some t'=>drGo rest ms (i+1) t' S (acc++ [⟨S.nb,S.nb,none,some []⟩])
      | none=>none
    | none=>none
end
end Go.Vx
end
section
namespace Go.Vx
open Go.Ax (TtOk TyI nthO nthO_eq backOk backOk_spec ancOf masks anc_spec slotsOk drawOk constOk looksAt_guard)
open Go.RowKit (Below)
def rc0:Rc:=⟨none,false,.tup [],fun _=>none,fun _=>none,fun _=>false,fun _=>false⟩
def trf (rs:List Rc) (k:Nat):Rc:=match rs[k]? with
  | some r=>r
  | none=>rc0
theorem trf_cons0 (r:Rc) (rs:List Rc):trf (r :: rs) 0=r:=rfl
theorem trf_cons (r:Rc) (rs:List Rc) (k:Nat):trf (r :: rs) (k+1)=trf rs k:=rfl
def tru (_:Nat):Bool:=true
theorem tAt_cons {t:Nat→VV} {r:Rc} {rs:List Rc} {n:Nat}:∀k,tAt t (trf (r :: rs)) tru (k+1) n=tAt (fun m=>if r.dst=some m then r.val else t m) (trf rs) tru k n
  | 0=>by simp [tAt,tru,trf_cons0]
  | k + 1 => by
    show (if tru (k+1)=true∧(trf rs k).dst=some n then (trf rs k).val else tAt t (trf (r :: rs)) tru (k+1) n)=_
    rw [tAt_cons k];rfl
theorem hAt_cons {h:Nat→Option Blk} {r:Rc} {rs:List Rc} {b:Nat}:∀k,hAt h (trf (r :: rs)) tru (k+1) b=hAt (fun m=>if r.mod m=true then r.post m else h m) (trf rs) tru k b
  | 0=>by simp [hAt,tru,trf_cons0]
  | k + 1 => by
    show (if tru (k+1)=true∧(trf rs k).mod b=true then (trf rs k).post b else hAt h (trf (r :: rs)) tru (k+1) b)=_
    rw [hAt_cons k];rfl
theorem wantB_slots {ops:Array Oper} {o:Oper} {t:Tr VV} {r:Bool} (e:wantB ops o t=some r) {ρ:Nat→Ph} {tmps:Array Value} (ht:∀d∈o.looksAt ops,(tvf t d).R ρ (tmps.getD d undef)):Region.wanted o (yielded ops tmps)=r:=by
  unfold wantB at e
  unfold Region.wanted
  split at e
  · rename_i hg;cases e;simp [hg]
  · rename_i j want hg
    split at e
    · rename_i d hd
      rw [nthO_eq,Array.getElem?_toList] at hd
      have h5:=ht d (looksAt_guard hg hd)
      split at e
      · rename_i b hb
        cases e
        simp only [tvf,hb] at h5
        obtain ⟨h5,_⟩:=h5
        have h6:tmps[d]?=some (.bool b):=by
          rw [Array.getD_eq_getD_getElem?] at h5
          cases h:tmps[d]? with
          | none=>rw [h] at h5;cases h5
          | some x=>rw [h] at h5;simpa using h5
        simp only [hg,yielded,hd,Option.bind_some,h6]
        cases b <;> cases want <;> rfl
      · rename_i hb
        cases e
        simp only [tvf,hb] at h5
        obtain ⟨vs,h5,h6⟩:=h5
        obtain rfl:vs= []:=h6
        simp only [hg,yielded,hd,Option.bind_some]
        rw [Array.getD_eq_getD_getElem?] at h5
        cases h:tmps[d]? with
        | none=>cases want <;> rfl
        | some x =>
          rw [h] at h5
          simp only [Option.getD_some] at h5
          subst h5
          cases want <;> rfl
      · cases e
    · cases e
theorem putT_tvf {N:Nat} {t t':Tr VV} {d:Option Tmp} {v:VV} (e:putT N t d v=some t') (m:Nat):tvf t' m=if d=some m then v else tvf t m:=by
  unfold putT at e
  split at e
  · cases e;simp
  · rename_i d
    obtain ⟨h1,e⟩:=ifB_eq e
    cases e
    obtain ⟨h1,h2⟩:=and_t h1
    rw [tvf_set h2]
    by_cases e:m=d
    · subst e;simp
    · simp [e,Ne.symm e]
def modU (nb:Nat) (u:Up) (b:Nat):Bool:=isOld u.old b || (Nat.ble nb b && Nat.ble (b+1) (u.nb nb))
theorem isOld_iff {o:Option Nat} {b:Nat}:isOld o b=true↔o=some b:=by
  cases o with
  | none=>simp [isOld]
  | some c=>simp [isOld,beq_t]
theorem modU_iff {nb:Nat} {u:Up} {b:Nat}:modU nb u b=true↔u.mod nb b:=by
  unfold modU
  simp only [Bool.or_eq_true,isOld_iff,Bool.and_eq_true,Nat.ble_eq]
  cases u with
  | no=>simp [Up.old,Up.nb,Up.mod];omega
  | set c x=>simp only [Up.old,Up.nb,Up.mod,Option.some.injEq];omega
  | new x => simp only [Up.old, Up.nb, Up.mod]; constructor
             · rintro (h|h)
               · cases h
               · omega
             · intro h;right;omega
  | app c x=>simp only [Up.old,Up.nb,Up.mod,Option.some.injEq];omega
theorem up_post {nb:Nat} {u:Up} {h h':Nat→Option Blk} {b:Nat} (hm:modU nb u b=true):u.h nb h b=u.h nb h' b:=by
  rw [modU_iff] at hm
  cases u with
  | no=>exact hm.elim
  | set c x=>have hm:b=c:=hm;simp [Up.h,setB,hm]
  | new x=>have hm:b=nb:=hm;simp [Up.h,setB,hm]
  | app c x =>
    have hm:b=c∨b=nb:=hm
    simp only [Up.h,setB]
    by_cases e:b=nb
    · simp [e]
    · have:b=c:=hm.resolve_right e
      simp [this]
theorem up_keep {nb:Nat} {u:Up} {h:Nat→Option Blk} {b:Nat} (hm:¬modU nb u b=true):u.h nb h b=h b:=by
  rw [modU_iff] at hm
  cases u with
  | no=>rfl
  | set c x=>have hm:¬b=c:=hm;simp [Up.h,setB,hm]
  | new x=>have hm:¬b=nb:=hm;simp [Up.h,setB,hm]
  | app c x=>have hm:¬(b=c∨b=nb):=hm;rw [not_or] at hm;simp [Up.h,setB,hm.1,hm.2]
section
variable (P:Program) (w0:World) (ng:Nat) (ops:Array Oper) (lim:Nat)
structure RcOk (o:Oper) (t:Nat→VV) (h:Nat→Option Blk) (lo hi:Nat) (r:Rc):Prop where
  dst:r.dst=o.dst
  want:∀(ρ:Nat→Ph) (tmps:Array Value),(∀d∈o.looksAt ops,(t d).R ρ (tmps.getD d undef))→Region.wanted o (yielded ops tmps)=r.ran
  step:r.ran=true→StepR P w0 ng o (evV t) r
  skip:r.ran=false→r.val= .tup []∧∀b,r.mod b=false
  view:∀b z,r.ran=true→r.view b=some z→h b=some z
  new:∀b,r.new b=true→r.mod b=true∧lo≤b∧b < hi
  mod:∀b,r.mod b=true→lim≤b∧b < hi
def Apart (p q:Rc):Prop:=∀b,(p.mod b=true→¬(q.ran=true∧∃z,q.view b=some z)∧q.mod b=false)∧(q.mod b=true→¬(p.ran=true∧∃z,p.view b=some z))
structure DrOk (rest:List Oper) (ms:List Nat) (i:Nat) (t:Nat→VV) (S:Sx) (acc:List Dv) (t':Nat→VV) (S':Sx) (rs:List Rc):Prop where
  len:rs.length=rest.length
  nb:S.nb≤S'.nb
  tEnd:∀n,tAt t (trf rs) tru rest.length n=t' n
  hEnd:∀b,hAt S.f (trf rs) tru rest.length b=S'.f b
  ok:∀(k:Nat) (o:Oper),rest[k]?=some o→RcOk P w0 ng ops lim o (tAt t (trf rs) tru k) (hAt S.f (trf rs) tru k) S.nb S'.nb (trf rs k)
  pairs:∀p q m,p < q→q < rest.length→ms[q]?=some m→m.testBit (i+p)=false→Apart (trf rs p) (trf rs q)
  news:∀p q b,p < q→q < rest.length→(trf rs q).new b=true→(trf rs p).mod b=false
  pre:∀p d,acc[p]?=some d→∀q m,q < rest.length→ms[q]?=some m→m.testBit p=false→
    ∀b,(effB d b=true→¬((trf rs q).ran=true∧∃z,(trf rs q).view b=some z)∧(trf rs q).mod b=false)∧((trf rs q).mod b=true→S.nb≤b∨∃l,d.rd=some l∧b∉l)
end
section
variable {P:Program} {w0:World} {ng:Nat} {ops:Array Oper} {lim N:Nat} {tt:TypeId→Option TyI} {call:CallF}
theorem DrOk.cons {o:Oper} {rest:List Oper} {m:Nat} {ms:List Nat} {i:Nat} {t t1:Nat→VV} {S S1:Sx} {acc:List Dv} {d:Dv} {t':Nat→VV} {S':Sx} {rs:List Rc} {r:Rc}
    (D:DrOk P w0 ng ops lim rest ms (i+1) t1 S1 (acc++ [d]) t' S' rs) (hacc:acc.length=i) (hnb:S.nb≤S1.nb) (hr:∀hi,S1.nb≤hi→RcOk P w0 ng ops lim o t S.f S.nb hi r)
    (ht:∀n,t1 n=if r.dst=some n then r.val else t n) (hh:∀b,S1.f b=if r.mod b=true then r.post b else S.f b)
    (heff:∀b,r.mod b=true→b < S1.nb) (hanc:(∀b,r.mod b=true→effB d b=true)∨∀(q m:Nat),ms[q]?=some m→m.testBit i=true)
    (hview:∀b z,r.ran=true→r.view b=some z→(b < S.nb∨S'.nb≤b)∧∀l,d.rd=some l→b∈l)
    (hpre:∀p d',acc[p]?=some d'→m.testBit p=false→∀b,(effB d' b=true→¬(r.ran=true∧∃z,r.view b=some z)∧r.mod b=false)∧(r.mod b=true→S.nb≤b∨∃l,d'.rd=some l∧b∉l)) :
    DrOk P w0 ng ops lim (o :: rest) (m :: ms) i t S acc t' S' (r :: rs):=by
  have et:t1=fun m=>if r.dst=some m then r.val else t m:=funext ht
  have eh:S1.f=fun m=>if r.mod m=true then r.post m else S.f m:=funext hh
  refine ⟨by simp [D.len],Nat.le_trans hnb D.nb,fun n=>?_,fun b=>?_,fun k o' hk=>?_,fun p q m' hpq hq hm hb=>?_,fun p q b hpq hq hb=>?_,fun p d' hd q m' hq hm hb b=>?_⟩
  · rw [List.length_cons,tAt_cons,←et];exact D.tEnd n
  · rw [List.length_cons,hAt_cons,←eh];exact D.hEnd b
  · cases k with
    | zero =>
      simp only [List.getElem?_cons_zero,Option.some.injEq] at hk
      subst hk
      exact hr _ D.nb
    | succ k =>
      have hk:rest[k]?=some o':=by simpa using hk
      have h1:=D.ok k o' hk
      have e1:tAt t (trf (r :: rs)) tru (k+1)=tAt t1 (trf rs) tru k:=by funext n;rw [tAt_cons,←et]
      have e2:hAt S.f (trf (r :: rs)) tru (k+1)=hAt S1.f (trf rs) tru k:=by funext n;rw [hAt_cons,←eh]
      rw [trf_cons,e1,e2]
      exact ⟨h1.dst,h1.want,h1.step,h1.skip,h1.view,fun b hb=>by have:=h1.new b hb;exact ⟨this.1,Nat.le_trans hnb this.2.1,this.2.2⟩,h1.mod⟩
  · cases q with
    | zero=>omega
    | succ q =>
      have hq:q < rest.length:=by simpa using hq
      have hm:ms[q]?=some m':=by simpa using hm
      cases p with
      | succ p =>
        rw [trf_cons,trf_cons]
        exact D.pairs p q m' (by omega) hq hm (by rwa [show i+1+p=i+(p+1) by omega])
      | zero =>
        rw [trf_cons,trf_cons0]
        rw [Nat.add_zero] at hb
        have hP:=D.pre i d (by rw [List.getElem?_append_right (by omega),hacc];simp) q m' hq hm hb
        intro b
        refine ⟨fun hm'=>?_,fun hm'=>?_⟩
        · rcases hanc with h|h
          · exact (hP b).1 (h b hm')
          · rw [h q m' hm] at hb;cases hb
        · rintro ⟨h1,z,h2⟩
          obtain ⟨h3,h4⟩:=hview b z h1 h2
          have ho:∃o',rest[q]?=some o':=⟨rest[q],by simp [hq]⟩
          obtain ⟨o',ho'⟩:=ho
          have h5:=(D.ok q o' ho').mod b hm'
          rcases (hP b).2 hm' with h|⟨l,h6,h7⟩
          · have:=h5.2
            rcases h3 with h3|h3 <;> omega
          · exact h7 (h4 l h6)
  · cases q with
    | zero=>omega
    | succ q =>
      have hq:q < rest.length:=by simpa using hq
      rw [trf_cons] at hb
      obtain ⟨o',ho'⟩:∃o',rest[q]?=some o':=⟨rest[q],by simp [hq]⟩
      have h5:=(D.ok q o' ho').new b hb
      cases p with
      | succ p=>rw [trf_cons];exact D.news p q b (by omega) hq hb
      | zero =>
        rw [trf_cons0]
        cases hm:r.mod b with
        | false=>rfl
        | true=>have:=heff b hm;omega
  · cases q with
    | zero =>
      simp only [List.getElem?_cons_zero,Option.some.injEq] at hm
      subst hm
      exact hpre p d' hd hb b
    | succ q =>
      have hq:q < rest.length:=by simpa using hq
      have hm:ms[q]?=some m':=by simpa using hm
      rw [trf_cons]
      have hp:p < acc.length:=(List.getElem?_eq_some_iff.1 hd).1
      have:=D.pre p d' (by rw [List.getElem?_append_left hp];exact hd) q m' hq hm hb b
      exact ⟨this.1,fun h=>(this.2 h).imp (fun h=>Nat.le_trans hnb h) id⟩
end
end Go.Vx
end
