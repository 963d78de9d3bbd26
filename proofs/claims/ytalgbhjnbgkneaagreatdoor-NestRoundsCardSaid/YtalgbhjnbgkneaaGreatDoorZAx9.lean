/- Lemmas on the program and its library, part Ax9. -/
import Derived.Test.YtalgbhjnbgkneaaGreatDoorZAx8
set_option linter.unusedVariables false
set_option linter.unusedSimpArgs false
section
namespace Go.Ax
open Go.RowKit (Below)
def maskOf (acc:List Nat) (o:Oper):Nat:=o.after.toList.foldl (fun s e=>if Region.binds .any e then s ||| (2 ^ e.on ||| acc.getD e.on 0) else s) 0
def masks:List Oper→List Nat→List Nat
  | [],acc=>acc
  | o :: r,acc=>masks r (acc++ [maskOf acc o])
def ancOf (ms:List Nat) (i j:Nat):Bool:=(ms.getD i 0).testBit j
theorem masks_append:∀(os:List Oper) (acc:List Nat),∃r,masks os acc=acc++r∧r.length=os.length
  | [],acc=>⟨[],by simp [masks],rfl⟩
  | o :: os, acc => by
    obtain ⟨r,h1,h2⟩:=masks_append os (acc++ [maskOf acc o])
    exact ⟨maskOf acc o :: r,by simp [masks,h1],by simp [h2]⟩
theorem masks_get:∀(os:List Oper) (acc:List Nat) (i:Nat) (o:Oper),os[i]?=some o→∃pre,(∀j,j < acc.length+i→(masks os acc).getD j 0=pre.getD j 0)∧pre.length=acc.length+i∧(masks os acc).getD (acc.length+i) 0=maskOf pre o
  | [],_,_,_,h=>by simp at h
  | o' :: os, acc, 0, o, h => by
    have:o'=o:=by simpa using h
    subst this
    obtain ⟨r,h1,h2⟩:=masks_append os (acc++ [maskOf acc o'])
    refine ⟨acc,fun j hj=>?_,by simp,?_⟩
    · rw [masks,h1]
      simp at hj
      simp [List.getD_eq_getElem?_getD,List.getElem?_append,hj]
    · rw [masks,h1]
      simp [List.getD_eq_getElem?_getD]
  | o' :: os, acc, i + 1, o, h => by
    obtain ⟨pre,h1,h2,h3⟩:=masks_get os (acc++ [maskOf acc o']) i o (by simpa using h)
    have e:(acc++ [maskOf acc o']).length+i=acc.length+(i+1):=by simp;omega
    rw [e] at h1 h2 h3
    exact ⟨pre,h1,h2,h3⟩
theorem foldl_bits (acc:List Nat):∀(es:List Edge) (s j:Nat),(es.foldl (fun s e=>if Region.binds .any e then s ||| (2 ^ e.on ||| acc.getD e.on 0) else s) s).testBit j=true→
    s.testBit j=true∨∃e∈es,Region.binds .any e=true∧(e.on=j∨(acc.getD e.on 0).testBit j=true)
  | [],s,j,h=>.inl h
  | e :: es, s, j, h => by
    simp only [List.foldl_cons] at h
    rcases foldl_bits acc es _ j h with h|⟨e',h1,h2⟩
    · split at h
      · rename_i hb
        simp only [Nat.testBit_or,Bool.or_eq_true,Nat.testBit_two_pow,decide_eq_true_eq] at h
        rcases h with h|h|h
        · exact .inl h
        · exact .inr ⟨e,by simp,hb,.inl h⟩
        · exact .inr ⟨e,by simp,hb,.inr h⟩
      · exact .inl h
    · exact .inr ⟨e',by simp [h1],h2⟩
def backOk (ops:Array Oper):Bool:=ops.toList.zipIdx.all fun (o,i)=>o.after.toList.all fun e=>!Region.binds .any e || decide (e.on < i)
theorem backOk_spec {ops:Array Oper} (h:backOk ops=true):∀(i:Nat) (o:Oper),ops[i]?=some o→∀e∈o.after,Region.binds .any e=true→e.on < i:=by
  intro i o ho e he hb
  simp only [backOk,List.all_eq_true] at h
  have:=h (o,i) (by rw [List.mem_zipIdx_iff_getElem?];simpa using ho) e (by simpa using he)
  simpa [hb] using this
theorem anc_spec {ops:Array Oper} (hbk:backOk ops=true):∀S:Nat→Bool,(∀(i:Nat) (o:Oper),ops[i]?=some o→S i=true→∀e∈o.after,Region.binds .any e=true→S e.on=true)→
    ∀(i:Nat) (o:Oper),ops[i]?=some o→(∀e∈o.after,Region.binds .any e=true→S e.on=true)→∀j,ancOf (masks ops.toList []) i j=true→S j=true:=by
  intro S hS i
  induction i using Nat.strongRecOn with
  | _ i ih =>
    intro o ho hr j hj
    obtain ⟨pre,h1,h2,h3⟩:=masks_get ops.toList [] i o (by simpa using ho)
    simp only [List.length_nil,Nat.zero_add] at h1 h2 h3
    unfold ancOf at hj
    rw [h3] at hj
    rcases foldl_bits pre _ _ _ hj with h|⟨e,h4,h5,h6⟩
    · simp at h
    · have he:e∈o.after:=by simpa using h4
      have hlt:=backOk_spec hbk i o ho e he h5
      have hSe:=hr e he h5
      rcases h6 with h6|h6
      · rw [←h6];exact hSe
      · rw [←h1 e.on (by omega)] at h6
        have hlt':e.on < ops.size:=by
          have:i < ops.size:=(Array.getElem?_eq_some_iff.1 ho).1
          omega
        have ho':ops[e.on]?=some ops[e.on]:=by simp [hlt']
        exact ih e.on hlt _ ho' (fun e' he' hb'=>hS e.on _ ho' hSe e' he' hb') j h6
def slotsOk (N:Nat) (ops:Array Oper) (ms:List Nat):Bool:=
  ops.toList.zipIdx.all fun (o,i)=>
    (match o.dst with|some d=>decide (d < N)|none=>true) && ndB o &&
    o.op.operands.toList.all constOk &&
    ops.toList.zipIdx.all fun (o',j)=>match o'.dst with
      | some d=>(i == j || o.dst != some d) && (!(o.looksAt ops).contains d || (i == j || ((decide (j < i) && ancOf ms i j) || (decide (i < j) && ancOf ms j i))))
      | none=>true
def drawOk (N:Nat) (ops:Array Oper):Bool:=backOk ops && slotsOk N ops (masks ops.toList [])
def boxOk (ops:Array Oper) (nb:Nat) (sh:List Sh):Bool:=
  sh.zipIdx.all fun (s,j)=>match s.eff with
    | none=>true
    | some (isNew, b) => (!isNew || decide (nb ≤ b)) &&
      sh.zipIdx.all fun (s',i)=>i == j || !(s'.reads.contains b || (match s'.eff with|some (_,b')=>b' == b|none=>false)) ||
        ((decide (j < i) && ancOf (masks ops.toList []) i j) || (decide (i < j) && ancOf (masks ops.toList []) j i)) && !(isNew && (match s'.eff with|some (n,b')=>n && b' == b|none=>false))
def Done.u:Done:=⟨none,none⟩
theorem slots_run {P G nb0 ops}:∀(ds:List Done) (rest:List Oper) (st:St),Trace P G nb0 ops rest st ds→ds.length=rest.length
  | [],[],_,_=>rfl
  | [],_ :: _,_,h=>by obtain ⟨_,_,h,_⟩:=h;cases h
  | _ :: _,[],_,h=>by cases h
  | d :: ds, o :: rest, st, h => by
    obtain ⟨_,_,h1,_,_,_,h2⟩:=h
    cases h1
    simp [slots_run ds rest _ h2]
theorem St.after_t (st:St) (d:Done) (n:Nat):(st.after d).t n=if d.dst=some n then d.val else st.t n:=by
  unfold St.after Done.val
  cases hd:d.it with
  | none =>
    simp only [St.put]
    cases d.dst with
    | none=>simp
    | some m =>
      by_cases e:n=m
      · subst e;simp [upd_eq]
      · have e':¬m=n:=fun h=>e h.symm
        simp [upd_eq,e,e']
  | some it =>
    simp only [St.step]
    have:(st.put d.dst it.val |>.eff it.eff).t=(st.put d.dst it.val).t:=by unfold St.eff;split <;> rfl
    rw [this]
    simp only [St.put]
    cases d.dst with
    | none=>simp
    | some m=>by_cases e:n=m <;> simp [upd_eq,e,eq_comm]
theorem St.put_h (st:St) (dst:Option Tmp) (x:AV):(st.put dst x).h=st.h∧(st.put dst x).nb=st.nb:=by cases dst <;> exact ⟨rfl,rfl⟩
theorem St.after_h (st:St) (d:Done) (b:Nat):(st.after d).h b=match d.eff with
    | .new id bx=>if id=b then some bx else st.h b
    | .set id bx=>if id=b then some bx else st.h b
    | .none=>st.h b:=by
  unfold St.after Done.eff
  cases hd:d.it with
  | none=>simp [(St.put_h _ _ _).1]
  | some it =>
    simp only [St.step,St.eff]
    cases he:it.eff <;> simp [hupd_eq,(St.put_h _ _ _).1,eq_comm]
theorem after_slots {st:St} {ds:List Done}:∀k,k≤ds.length→∀n,((ds.take k).foldl St.after st).t n=slotsAt st.t (fun i=>ds.getD i Done.u) (fun _=>true) k n
  | 0,_,n=>rfl
  | k + 1, h, n => by
    have hk:k < ds.length:=by omega
    rw [List.take_succ_eq_append_getElem hk,List.foldl_append,List.foldl_cons,List.foldl_nil,St.after_t,after_slots k (by omega) n]
    simp [slotsAt,List.getD_eq_getElem?_getD,hk]
theorem after_boxes {st:St} {ds:List Done}:∀k,k≤ds.length→∀n,((ds.take k).foldl St.after st).h n=boxesAt st.h (fun i=>ds.getD i Done.u) (fun _=>true) k n
  | 0,_,n=>rfl
  | k + 1, h, n => by
    have hk:k < ds.length:=by omega
    rw [List.take_succ_eq_append_getElem hk,List.foldl_append,List.foldl_cons,List.foldl_nil,St.after_h,after_boxes k (by omega) n]
    simp only [boxesAt,if_true]
    simp only [List.getD_eq_getElem?_getD,List.getElem?_eq_getElem hk,Option.getD_some]
    rfl
theorem trace_at {P G nb0 ops}:∀(ds:List Done) (rest:List Oper) (st:St),Trace P G nb0 ops rest st ds→∀(i:Nat) (o:Oper) (d:Done),rest[i]?=some o→ds[i]?=some d→
    d.dst=o.dst∧(∀it,d.it=some it→wantedA ops o ((ds.take i).foldl St.after st).t true∧StepSound P G o (evAt ((ds.take i).foldl St.after st).t) ((ds.take i).foldl St.after st).h it∧
      (∀id bx,it.eff= .new id bx→id=((ds.take i).foldl St.after st).nb)∧(∀id bx,it.eff= .set id bx→nb0≤id))∧
    (d.it=none→wantedA ops o ((ds.take i).foldl St.after st).t false)
  | [],_,_,_,i,_,_,_,h=>by simp at h
  | _ :: _,[],_,h,_,_,_,_,_=>by cases h
  | d' :: ds, o' :: rest, st, h, 0, o, d, h1, h2 => by
    obtain ⟨_,_,h3,h4,h5,h6,_⟩:=h
    cases h3
    obtain rfl:o'=o:=by simpa using h1
    obtain rfl:d'=d:=by simpa using h2
    exact ⟨h4,h5,h6.1⟩
  | d' :: ds, o' :: rest, st, h, i + 1, o, d, h1, h2 => by
    obtain ⟨_,_,h3,_,_,_,h4⟩:=h
    cases h3
    exact trace_at ds rest _ h4 i o d (by simpa using h1) (by simpa using h2)
theorem after_nb {P G nb0 ops}:∀(ds:List Done) (rest:List Oper) (st:St),Trace P G nb0 ops rest st ds→st.nb≤(ds.foldl St.after st).nb∧∀d∈ds,∀id bx,d.eff= .new id bx→st.nb≤id∧id < (ds.foldl St.after st).nb
  | [],_,_,_=>⟨Nat.le_refl _,fun _ h=>by cases h⟩
  | _ :: _,[],_,h=>by cases h
  | d :: ds, o :: rest, st, h => by
    obtain ⟨_,_,h3,_,h5,_,h4⟩:=h
    cases h3
    obtain ⟨h6,h7⟩:=after_nb ds rest _ h4
    have hle:st.nb≤(st.after d).nb∧∀id bx,d.eff= .new id bx→st.nb=id∧id < (st.after d).nb:=by
      unfold St.after Done.eff
      cases hd:d.it with
      | none=>exact ⟨by simp [(St.put_h _ _ _).2],fun _ _ h=>(by cases h)⟩
      | some it =>
        obtain ⟨_,_,h8,_⟩:=h5 it hd
        simp only [St.step,St.eff]
        split
        · rename_i he
          exact ⟨by simp [(St.put_h _ _ _).2],fun _ _ h=>by rw [he] at h;cases h⟩
        · rename_i id bx he
          have:=h8 id bx he
          refine ⟨by simp;omega,fun id' bx' h=>?_⟩
          rw [he] at h;cases h
          exact ⟨this.symm,by simp⟩
        · rename_i id bx he
          exact ⟨by simp [(St.put_h _ _ _).2],fun _ _ h=>by rw [he] at h;cases h⟩
    refine ⟨Nat.le_trans hle.1 h6,fun d' hd' id bx he=>?_⟩
    rcases List.mem_cons.1 hd' with rfl|hd'
    · have:=hle.2 id bx he
      exact ⟨by omega,Nat.lt_of_lt_of_le this.2 h6⟩
    · have:=h7 d' hd' id bx he
      exact ⟨Nat.le_trans hle.1 this.1,this.2⟩
theorem trOk_of {c:Ctx} {ops:Array Oper} {st:St} {ds:List Done} (hnb:c.nb0≤st.nb) (htr:Trace c.P c.G c.ns ops ops.toList st ds) (hd:drawOk c.N ops=true) (hb:boxOk ops st.nb (ds.map Done.sh)=true) :
    TrOk c ops st.t st.h st.nb (fun i=>ds.getD i Done.u) (ancOf (masks ops.toList [])) allD:=by
  have hlen:ds.length=ops.size:=by rw [slots_run ds _ _ htr];simp
  simp only [drawOk,Bool.and_eq_true] at hd
  obtain ⟨hbk,hsl⟩:=hd
  have hget:∀i,i < ops.size→∃d,ds[i]?=some d∧ds.getD i Done.u=d:=by
    intro i hi
    have:i < ds.length:=by omega
    exact ⟨ds[i],by simp [this],by simp [List.getD_eq_getElem?_getD,this]⟩
  have hsz:∀(i:Nat) (o:Oper),ops[i]?=some o→i < ops.size:=fun i o h=>(Array.getElem?_eq_some_iff.1 h).1
  have hfact:∀(i:Nat) (o:Oper),ops[i]?=some o→∃d,ds[i]?=some d∧ds.getD i Done.u=d∧d.dst=o.dst∧
      (∀it,d.it=some it→wantedA ops o (slotsAt st.t (fun i=>ds.getD i Done.u) (fun _=>true) i) true∧StepSound c.P c.G o (evAt (slotsAt st.t (fun i=>ds.getD i Done.u) (fun _=>true) i)) (boxesAt st.h (fun i=>ds.getD i Done.u) (fun _=>true) i) it∧
        (∀id bx,it.eff= .new id bx→id=((ds.take i).foldl St.after st).nb)∧(∀id bx,it.eff= .set id bx→c.ns≤id))∧
      (d.it=none→wantedA ops o (slotsAt st.t (fun i=>ds.getD i Done.u) (fun _=>true) i) false):=by
    intro i o ho
    have hi:=hsz i o ho
    obtain ⟨d,h1,h2⟩:=hget i hi
    obtain ⟨h3,h4,h5⟩:=trace_at ds ops.toList st htr i o d (by simpa using ho) h1
    have e1:((ds.take i).foldl St.after st).t=slotsAt st.t (fun i=>ds.getD i Done.u) (fun _=>true) i:=funext (after_slots i (by omega))
    have e2:((ds.take i).foldl St.after st).h=boxesAt st.h (fun i=>ds.getD i Done.u) (fun _=>true) i:=funext (after_boxes i (by omega))
    rw [e1,e2] at h4
    rw [e1] at h5
    exact ⟨d,h1,h2,h3,h4,h5⟩
  have hslf:∀(i:Nat) (o:Oper),ops[i]?=some o→((∀d,o.dst=some d→d < c.N)∧∀cc,o.op≠.defer cc)∧(∀x∈o.op.operands,constOk x=true)∧
      ∀(j:Nat) (o':Oper) (d:Tmp),ops[j]?=some o'→o'.dst=some d→(i=j∨o.dst≠some d)∧(d∈o.looksAt ops→i=j∨(j < i∧ancOf (masks ops.toList []) i j=true)∨(i < j∧ancOf (masks ops.toList []) j i=true)):=by
    intro i o ho
    simp only [slotsOk,List.all_eq_true] at hsl
    have h:=hsl (o,i) (by rw [List.mem_zipIdx_iff_getElem?];simpa using ho)
    simp only [Bool.and_eq_true] at h
    obtain ⟨⟨⟨h1,hnd⟩,h2⟩,h3⟩:=h
    refine ⟨⟨fun d hd=>by simpa [hd] using h1,ndB_spec hnd⟩,fun x hx=>?_,fun j o' d hj hd=>?_⟩
    · rw [List.all_eq_true] at h2;exact h2 x (by simpa using hx)
    · rw [List.all_eq_true] at h3
      have:=h3 (o',j) (by rw [List.mem_zipIdx_iff_getElem?];simpa using hj)
      simp only [hd,Bool.and_eq_true,Bool.or_eq_true,beq_iff_eq,bne_iff_ne,ne_eq,Bool.not_eq_true',decide_eq_true_eq] at this
      obtain ⟨h4,h5⟩:=this
      refine ⟨h4,fun hm=>?_⟩
      rcases h5 with h5|h5
      · have:(o.looksAt ops).contains d=true:=by simpa using hm
        rw [this] at h5;cases h5
      · exact h5
  have hdst:∀i,i < ops.size→∃o,ops[i]?=some o∧(ds.getD i Done.u).dst=o.dst:=by
    intro i hi
    have ho:ops[i]?=some ops[i]:=by simp [hi]
    obtain ⟨d,_,h2,h3,_⟩:=hfact i _ ho
    exact ⟨_,ho,by rw [h2];exact h3⟩
  have hnew:=after_nb ds ops.toList st htr
  have hbox:∀i j b,i < ops.size→j < ops.size→i≠j→(ds.getD j Done.u).eff.id?=some b→(b∈(ds.getD i Done.u).reads∨(ds.getD i Done.u).eff.id?=some b)→
      ((j < i∧ancOf (masks ops.toList []) i j=true)∨(i < j∧ancOf (masks ops.toList []) j i=true))∧
      ¬((∃bx,(ds.getD j Done.u).eff= .new b bx)∧∃bx,(ds.getD i Done.u).eff= .new b bx):=by
    intro i j b hi hj hne he hr
    obtain ⟨di,h1,h2⟩:=hget i hi
    obtain ⟨dj,h3,h4⟩:=hget j hj
    rw [h4] at he;rw [h2] at hr
    rw [h2,h4]
    simp only [boxOk,List.all_eq_true] at hb
    have h:=hb (dj.sh,j) (by rw [List.mem_zipIdx_iff_getElem?];simp [h3])
    have hsh:∃n,dj.sh.eff=some (n,b)∧((∃bx,dj.eff= .new b bx)→n=true):=by
      unfold Done.sh Eff.sh
      cases hd:dj.eff with
      | none=>rw [hd] at he;cases he
      | new id bx=>rw [hd] at he;simp [Eff.id?] at he;exact ⟨true,by simp [he],fun _=>rfl⟩
      | set id bx=>rw [hd] at he;simp [Eff.id?] at he;exact ⟨false,by simp [he],fun ⟨_,h⟩=>by cases h⟩
    obtain ⟨n,hn,hn'⟩:=hsh
    simp only [hn,Bool.and_eq_true,List.all_eq_true] at h
    have h:=h.2 (di.sh,i) (by rw [List.mem_zipIdx_iff_getElem?];simp [h1])
    simp only [Bool.or_eq_true,beq_iff_eq,Bool.and_eq_true,decide_eq_true_eq,Bool.not_eq_true',Bool.or_eq_false_iff,hne,false_or] at h
    have hc:¬(di.sh.reads.contains b=false∧(match di.sh.eff with|some (_,b')=>b' == b|none=>false)=false):=by
      rintro ⟨h5,h6⟩
      rcases hr with hr|hr
      · have:di.sh.reads.contains b=true:=by simpa [Done.sh] using hr
        rw [this] at h5;cases h5
      · unfold Done.sh Eff.sh at h6
        cases hd:di.eff with
        | none=>rw [hd] at hr;cases hr
        | new id bx=>rw [hd] at hr;simp [Eff.id?] at hr;simp [hd,hr] at h6
        | set id bx=>rw [hd] at hr;simp [Eff.id?] at hr;simp [hd,hr] at h6
    rcases h with h|⟨h,h'⟩
    · exact absurd h hc
    · refine ⟨h,fun ⟨h7,bx,h8⟩=>?_⟩
      rw [hn' h7] at h'
      simp [Done.sh,Eff.sh,h8] at h'
  refine ⟨fun i o ho=>?_,fun i o ho _ it hit=>?_,fun i o ho _ hit=>?_,fun i o ho=>(hslf i o ho).1.2,fun i o ho=>(hslf i o ho).2.1,fun i o ho d hd j hj hjd=>?_,fun i j d hi hj h1 h2=>?_,fun i d hi hd'=>?_,fun i j b hi hj hne h1 h2=>(hbox i j b hi hj hne h1 h2).1,
    fun i id bx hi he=>?_,fun i j id bx bx' hi hj h1 h2=>?_,hnb,fun i id bx hi he=>?_,backOk_spec hbk,anc_spec hbk⟩
  · obtain ⟨d,_,h2,h3,_⟩:=hfact i o ho
    show (ds.getD i Done.u).dst=_
    rw [h2];exact h3
  · obtain ⟨d,_,h2,h3,h4,_⟩:=hfact i o ho
    have hit:(ds.getD i Done.u).it=some it:=hit
    rw [h2] at hit
    exact ⟨(h4 it hit).1,(h4 it hit).2.1⟩
  · obtain ⟨d,_,h2,h3,_,h5⟩:=hfact i o ho
    have hit:(ds.getD i Done.u).it=none:=hit
    rw [h2] at hit
    exact h5 hit
  · obtain ⟨o',ho',h1⟩:=hdst j hj
    have hjd:(ds.getD j Done.u).dst=some d:=hjd
    rw [h1] at hjd
    exact ((hslf i o ho).2.2 j o' d ho' hjd).2 hd
  · obtain ⟨o,ho,h3⟩:=hdst i hi
    obtain ⟨o',ho',h4⟩:=hdst j hj
    have h1:(ds.getD i Done.u).dst=some d:=h1
    have h2:(ds.getD j Done.u).dst=some d:=h2
    rw [h3] at h1;rw [h4] at h2
    exact ((hslf i o ho).2.2 j o' d ho' h2).1.resolve_right (fun h=>h h1)
  · obtain ⟨o,ho,h3⟩:=hdst i hi
    have hd':(ds.getD i Done.u).dst=some d:=hd'
    rw [h3] at hd'
    exact (hslf i o ho).1.1 d hd'
  · obtain ⟨d,h1,h2⟩:=hget i hi
    have he:(ds.getD i Done.u).eff= .new id bx:=he
    rw [h2] at he
    exact (hnew.2 d (List.mem_of_getElem? h1) id bx he).1
  · rcases Nat.decEq i j with h|h
    · exact absurd ⟨⟨bx',h2⟩,bx,h1⟩ (hbox i j id hi hj h (by rw [show (ds.getD j Done.u).eff=_ from h2];rfl) (.inr (by rw [show (ds.getD i Done.u).eff=_ from h1];rfl))).2
    · exact h
  · obtain ⟨o,ho,_⟩:=hdst i hi
    obtain ⟨d,_,h2,h3,h4,_⟩:=hfact i o ho
    have he:(ds.getD i Done.u).eff= .set id bx:=he
    rw [h2] at he
    unfold Done.eff at he
    cases hit:d.it with
    | none=>rw [hit] at he;cases he
    | some it=>rw [hit] at he;exact (h4 it hit).2.2.2 id bx he
-- axioms of trOk_of
end Go.Ax
end
