/- Lemmas on the program and its library, part Ax10. -/
import Derived.RangeFuncLeaves
import Derived.Test.YtalgbhjnbgkneaaGreatDoorZAx9
set_option linter.unusedVariables false
set_option linter.unusedSimpArgs false
section
namespace Go.Ax
open Go.RowKit (Below)
def RoOk (c:Ctx) (ro:Option Nat):Prop:=c.defs= []→ro=none
def Wp (c:Ctx) (code:Code) (Q:Exit→St→Prop) (st:St):Prop:=
  ∀(nn:Nat) (ro:Option Nat),RoOk c ro→∀E a w,SR c st E a w→code.wpIn (WF ro) nn c.P (fun e a w=>∃st E,SR c st E a w∧Q e st) a w
def Nxt (K:St→Prop) (Q:Exit→St→Prop):Exit→St→Prop
  | .normal,st=>K st
  | e,st=>Q e st
variable {c:Ctx} {Q:Exit→St→Prop} {st:St}
theorem Wp.mono {code:Code} {Q':Exit→St→Prop} (h:Wp c code Q st) (hq:∀e st,Q e st→Q' e st):Wp c code Q' st:=
  fun nn ro hr E a w s=>wpIn_mono (h nn ro hr E a w s) fun _ _ _ ⟨st,E,s,q⟩=>⟨st,E,s,hq _ _ q⟩
theorem Wp_skip (h:Q .normal st):Wp c .skip Q st:=fun _ _ _ E _ _ s=>wpIn_skip ⟨st,E,s,h⟩
theorem Wp_ret (h:Q .ret st):Wp c .ret Q st:=fun _ _ _ E _ _ s=>wpIn_ret ⟨st,E,s,h⟩
theorem Wp_exit {id:Nat} (h:Q (.exit id) st):Wp c (.exit id) Q st:=fun _ _ _ E _ _ s=>wpIn_exit ⟨st,E,s,h⟩
theorem Wp_seq {x y:Code} (h:Wp c x (Nxt (Wp c y Q) Q) st):Wp c (.seq x y) Q st:=by
  intro nn ro hr E a w s
  refine wpIn_seq (wpIn_mono (h nn ro hr E a w s) ?_)
  rintro e a w ⟨st,E,s,q⟩
  cases e with
  | normal=>exact q nn ro hr E a w s
  | _=>exact ⟨st,E,s,q⟩
theorem Wp_cond {x:Operand} {t e:Code} {b:Bool} (hx:evAt st.t x= .one (.v (.bool b))) (hc:constOk x=true) (ht:b=true→Wp c t Q st) (he:b=false→Wp c e Q st):Wp c (.cond x t e) Q st:=by
  intro nn ro hr E a w s
  have:=evAt_sound s.slots x hc
  rw [hx] at this
  obtain ⟨_,h,_⟩:=this
  simp only [List.cons.injEq,and_true] at h
  exact wpIn_cond_split h (fun h=>ht h nn ro hr E a w s) (fun h=>he h nn ro hr E a w s)
def CondK (x:AV) (T E:Prop):Prop:=match x with
  | .one (.v (.bool b))=>(b=true→T)∧(b=false→E)
  | _=>False
theorem condK_t {T E:Prop} (h:T):CondK (.one (.v (.bool true))) T E:=⟨fun _=>h,fun e=>(by cases e)⟩
theorem condK_f {T E:Prop} (h:E):CondK (.one (.v (.bool false))) T E:=⟨(fun e=>(by cases e)),fun _=>h⟩
theorem condK_if {T E:Prop} {b:Bool} (h1:b=true→T) (h2:b=false→E):CondK (.one (.v (.bool b))) T E:=⟨h1,h2⟩
theorem condK_dec {T E:Prop} {p:Prop} [Decidable p] (h1:p→T) (h2:¬p→E):CondK (.one (.v (.bool (decide p)))) T E:=⟨fun h=>h1 (of_decide_eq_true h),fun h=>h2 (of_decide_eq_false h)⟩
theorem condK_beq {T E:Prop} {a b:Int} (h1:a=b→T) (h2:¬a=b→E):CondK (.one (.v (.bool (a == b)))) T E:=⟨fun h=>h1 (eq_of_beq h),fun h=>h2 (ne_of_beq_false h)⟩
theorem condK_bne {T E:Prop} {a b:Int} (h1:¬a=b→T) (h2:a=b→E):CondK (.one (.v (.bool (a != b)))) T E:=⟨fun h=>h1 (by simpa using h),fun h=>h2 (by simpa using h)⟩
theorem Wp_condK {x:Operand} {t e:Code} (hk:constOk x=true) (h:CondK (evAt st.t x) (Wp c t Q st) (Wp c e Q st)):Wp c (.cond x t e) Q st:=by
  unfold CondK at h
  split at h
  · rename_i b hx
    exact Wp_cond hx hk h.1 h.2
  · exact h.elim
theorem nxt_normal {K:St→Prop} (h:K st):Nxt K Q .normal st:=h
theorem nxt_ret {K:St→Prop} (h:Q .ret st):Nxt K Q .ret st:=h
theorem nxt_exit {K:St→Prop} {id:Nat} (h:Q (.exit id) st):Nxt K Q (.exit id) st:=h
theorem condK_is {x y:AV} {T E:Prop} (e:Is x y) (h:CondK y T E):CondK x T E:=by
  have e:x=y:=e
  rw [e];exact h
def Blk (id:Nat) (Q:Exit→St→Prop):Exit→St→Prop
  | .exit id',st=>if id'=id then Q .normal st else Q (.exit id') st
  | e,st=>Q e st
theorem blk_normal {id:Nat} (h:Q .normal st):Blk id Q .normal st:=h
theorem blk_ret {id:Nat} (h:Q .ret st):Blk id Q .ret st:=h
theorem blk_eq {id:Nat} (h:Q .normal st):Blk id Q (.exit id) st:=by simp only [Blk,if_true];exact h
theorem blk_ne {id id':Nat} (hn:Nat.beq id' id=false) (h:Q (.exit id') st):Blk id Q (.exit id') st:=by
  simp only [Blk];rw [if_neg (fun e=>by rw [e,Nat.beq_refl] at hn;cases hn)];exact h
theorem Wp_block {id:Nat} {x:Code} (h:Wp c x (Blk id Q) st):Wp c (.block id x) Q st:=by
  intro nn ro hr E a w s
  refine wpIn_block (wpIn_mono (h nn ro hr E a w s) ?_)
  rintro e a w ⟨st,E,s,q⟩
  cases e with
  | exit id' =>
    simp only [Blk] at q
    simp only [Exit.inBlock]
    by_cases e:id'=id
    · simp only [e,if_true] at q ⊢;exact ⟨st,E,s,q⟩
    · simp only [e,if_false] at q ⊢;exact ⟨st,E,s,q⟩
  | _=>exact ⟨st,E,s,q⟩
theorem St.put_gh (st:St) (dst:Option Tmp) (x:AV):(st.put dst x).gh=st.gh:=by cases dst <;> rfl
theorem St.eff_gh (st:St) (e:Eff):(st.eff e).gh=st.gh:=by cases e <;> rfl
theorem St.after_gh (st:St) (d:Done):(st.after d).gh=st.gh:=by
  unfold St.after
  split
  · unfold St.step;rw [St.eff_gh,St.put_gh]
  · exact St.put_gh _ _ _
theorem St.fold_gh:∀(ds:List Done) (st:St),(ds.foldl St.after st).gh=st.gh
  | [],_=>rfl
  | d :: ds,st=>(St.fold_gh ds _).trans (St.after_gh st d)
theorem Wp_region {id:Nat} {ops:Array Oper} (hc:CtxOk c) (hm:c.P.follows .mixedOrders=true) (hnb:c.nb0≤st.nb) (hd:drawOk c.N ops=true)
    (h:OutK c.P c.G c.ns ops (fun _ _ _ _=>False) (absGo c.tt c.ns ops ops.toList st [] []) fun st' sh=>boxOk ops st.nb sh=true∧Q .normal st'):Wp c (.region id ops true) Q st:=by
  intro nn ro hr E a w s
  obtain ⟨_,pre,post,ds,hpp,h1,h2'⟩:=absGo_sound hc.tt _ _ _ _ h
  obtain ⟨h2,h3⟩:(boxOk ops st.nb ([]++ds.map Done.sh)=true)∧Q .normal (ds.foldl St.after st)∧post= []:=by
    rcases h2' with ⟨h4,h5⟩|⟨_,_,_,_,h4⟩
    · exact ⟨h5.1,h5.2,h4⟩
    · exact h4.elim
  obtain ⟨h3,rfl⟩:=h3
  rw [List.append_nil] at hpp
  subst hpp
  simp only [List.nil_append] at h2
  have hlen:ds.length=ops.size:=by rw [slots_run ds _ _ h1];simp
  have ok:=trOk_of hnb h1 hd h2
  have hn:=after_nb ds _ _ h1
  refine wp_region_abs hc hm s ok (nb':=(ds.foldl St.after st).nb) (fun i id bx hi he=>?_) hn.1 (fun E a w s'=>⟨_,E,?_,h3⟩)
  · have hi':i < ds.length:=by omega
    have he:(ds.getD i Done.u).eff= .new id bx:=he
    simp only [List.getD_eq_getElem?_getD,List.getElem?_eq_getElem hi',Option.getD_some] at he
    exact (hn.2 _ (List.getElem_mem hi') id bx he).2
  · have e1:=funext fun n=>after_slots (st:=st) (ds:=ds) ds.length (Nat.le_refl _) n
    have e2:=funext fun n=>after_boxes (st:=st) (ds:=ds) ds.length (Nat.le_refl _) n
    rw [List.take_length,hlen] at e1 e2
    unfold SR at s' ⊢
    rw [e1,e2,St.fold_gh]
    exact s'
def seqOk (N:Nat) (ops:Array Oper):Bool:=ops.toList.all fun o=>((match o.dst with|some d=>decide (d < N)|none=>true) && ndB o) && o.op.operands.toList.all constOk &&
  (match o.guard with|some (j,_)=>(match (ops[j]?).bind (·.dst) with|some d=>decide (d < N)|none=>true)|none=>true)
theorem seq_wp {nn:Nat} {ro:Option Nat} (hc:CtxOk c) {ops:Array Oper} {Q':Exit→Act→World→Prop}:∀(ds:List Done) (rest:List Oper) (k:Nat) (st:St),(∀j,j < rest.length→rest[j]?=ops[k+j]?)→∀m,c.nb0≤st.nb→Trace c.P c.G c.ns ops rest st ds→
    (∀o∈rest,((∀d,o.dst=some d→d < c.N)∧∀cc,o.op≠.defer cc)∧(∀x∈o.op.operands,constOk x=true)∧∀j want d,o.guard=some (j,want)→(ops[j]?).bind (·.dst)=some d→d < c.N)→
    (∀E a w,SR c (ds.foldl St.after st) E a w→wpOpsIn (WF ro) nn c.P ops Q' (List.range' (k+rest.length) m) a w)→∀E a w,SR c st E a w→wpOpsIn (WF ro) nn c.P ops Q' (List.range' k (rest.length+m)) a w
  | [],[],k,st,_,m,_,_,_,hQ,E,a,w,s=>by simpa using hQ E a w s
  | _ :: _,[],_,_,_,_,_,h,_,_,_,_,_,_=>by cases h
  | [],_ :: _,_,_,_,_,_,h,_,_,_,_,_,_=>by obtain ⟨_,_,h,_⟩:=h;cases h
  | d :: ds, o :: rest, k, st, hr, m, hnb, h, hok, hQ, E, a, w, s => by
    obtain ⟨_,_,h1,h2,h3,h4,h5⟩:=h
    cases h1
    have ho:ops[k]?=some o:=by have:=hr 0 (by simp);simpa using this.symm
    rw [List.length_cons,show rest.length+1+m=(rest.length+m)+1 by omega,List.range'_succ,wpOpsIn_cons]
    obtain ⟨⟨g1,gd⟩,g2,g3⟩:=hok o (by simp)
    have hwant:∀r,wantedA ops o st.t r→Region.wanted o (yielded ops a.tmps)=r:=fun r hr=>
      wantedA_sound (E:=E) (w:=w) s.size hr fun j want d' hg hd=>⟨g3 j want d' hg hd,s.slots d'⟩
    have hnb':st.nb≤(st.after d).nb:=(after_nb [d] [o] st ⟨d,[],rfl,h2,h3,h4,rfl⟩).1
    have next:∀E a w,SR c (st.after d) E a w→wpOpsIn (WF ro) nn c.P ops Q' (List.range' (k+1) (rest.length+m)) a w:=fun E a w s'=>
      seq_wp hc ds rest (k+1) (st.after d) (fun j hj=>by have:=hr (j+1) (by simp;omega);rw [show k+1+j=k+(j+1) by omega];simpa using this) m (Nat.le_trans hnb hnb') h5 (fun o' ho'=>hok o' (by simp [ho'])) (fun E a w s=>by have:=hQ E a w s;rwa [List.length_cons,show k+(rest.length+1)=k+1+rest.length by omega] at this) E a w s'
    unfold wpOpIn
    rw [ho]
    dsimp only
    cases hit:d.it with
    | none =>
      rw [hwant false (h4.1 hit)]
      simp only [Bool.false_eq_true,if_false]
      refine ⟨fun _ _=>trivial,next E _ w ?_⟩
      have e:st.after d=st.put o.dst (.tup []):=by unfold St.after;rw [hit,h2]
      rw [e]
      unfold SR
      rw [St.put_gh]
      refine EffR.sr (c:=c) (it:=⟨.tup [],.none,[]⟩) (dst:=o.dst) (v:=undef) s (E':=E) (w':=w) ⟨rfl,Below.refl _ _⟩ ⟨[],rfl,rfl⟩ g1 (fun _ _ h=>(by cases h)) (fun n=>?_) (fun b=>⟨(fun _ h=>by rcases h with h|h <;> cases h),fun _=>by rw [(St.put_h _ _ _).1]⟩)
        (fun b hb=>⟨by rwa [(St.put_h _ _ _).2] at hb,fun _ h=>(by cases h)⟩) (fun _ _ h=>(by cases h))
      have:=St.after_t st d n
      rw [e,h2] at this
      rw [this]
      refine ⟨fun h=>by simp [h,Done.val,hit],fun h=>by simp [h]⟩
    | some it =>
      obtain ⟨f1,f2,f3,f4⟩:=h3 it hit
      rw [hwant true f1]
      simp only [if_true]
      refine (f2 nn ro E w a _ Q' gd s.env (hc.g w s.below) (fun x hx=>evAt_sound s.slots x (g2 x hx)) (fun b _ bx hbx=>s.boxes b bx hbx) (fun id bx he=>s.free id (by rw [f3 id bx he];exact Nat.le_refl _)) fun v E' w' hv hE=>?_)
      refine next E' _ w' ?_
      have e:st.after d=st.step o.dst it:=by unfold St.after;rw [hit,h2]
      have hh:=St.after_h st d
      have ht:=St.after_t st d
      have hv':d.val=it.val:=by simp [Done.val,hit]
      have he':d.eff=it.eff:=by simp [Done.eff,hit]
      unfold SR
      rw [St.after_gh]
      refine EffR.sr (c:=c) (it:=it) (dst:=o.dst) (v:=v) s hE hv g1 f4 (fun n=>?_) (fun b=>?_) (fun b hb=>?_) (fun id bx h=>by rw [f3 id bx h];exact hnb)
      · rw [ht n,h2,hv']
        exact ⟨fun h=>by simp [h],fun h=>by simp [h]⟩
      · rw [hh b,he']
        refine ⟨fun bx h=>?_,fun h=>?_⟩
        · rcases h with h|h <;> simp [h]
        · cases hx:it.eff with
          | none=>rfl
          | new id bx=>rw [hx] at h;simp [Eff.id?] at h;simp [h]
          | set id bx=>rw [hx] at h;simp [Eff.id?] at h;simp [h]
      · refine ⟨?_,fun bx h=>?_⟩
        · exact Nat.le_trans hnb' hb
        · have h6:=(after_nb [d] [o] st ⟨d,[],rfl,h2,h3,h4,rfl⟩).2 d (by simp) b bx (by rw [he'];exact h)
          simp only [List.foldl_cons,List.foldl_nil] at h6
          have:(st.after d).nb≤b:=hb
          omega
def HandS (c:Ctx) (ops:Array Oper) (K:St→Prop) (o:Oper) (rest:List Oper) (st:St) (_:List Sh):Prop:=
  ∀k,c.nb0≤st.nb→ops[k]?=some o→(∀j,rest[j]?=ops[k+1+j]?)→k+1+rest.length=ops.size→
    (∀o'∈o :: rest,((∀d,o'.dst=some d→d < c.N)∧∀cc,o'.op≠.defer cc)∧(∀x∈o'.op.operands,constOk x=true)∧∀j want d,o'.guard=some (j,want)→(ops[j]?).bind (·.dst)=some d→d < c.N)→
    ∀(nn:Nat) (ro:Option Nat) (Q':Exit→Act→World→Prop),(∀st' E a w,K st'→SR c st' E a w→Q' .normal a w)→
    ∀E a w,SR c st E a w→Region.wanted o (yielded ops a.tmps)=true→wpOpsIn (WF ro) nn c.P ops Q' (List.range' k (rest.length+1)) a w
theorem seq_runK {nn:Nat} {ro:Option Nat} (hc:CtxOk c) {ops:Array Oper} {K:St→Prop} {rest:List Oper} {k:Nat} {st:St} {sh:List Sh} (h:RunK c.P c.G c.ns ops (HandS c ops K) rest st sh fun st' _=>K st') (hr:∀j,rest[j]?=ops[k+j]?) (hk:k+rest.length=ops.size) (hnb:c.nb0≤st.nb)
    (hok:∀o∈rest,((∀d,o.dst=some d→d < c.N)∧∀cc,o.op≠.defer cc)∧(∀x∈o.op.operands,constOk x=true)∧∀j want d,o.guard=some (j,want)→(ops[j]?).bind (·.dst)=some d→d < c.N)
    (Q':Exit→Act→World→Prop) (hQ:∀st' E a w,K st'→SR c st' E a w→Q' .normal a w) (E:Env) (a:Act) (w:World) (s:SR c st E a w):wpOpsIn (WF ro) nn c.P ops Q' (List.range' k rest.length) a w:=by
  obtain ⟨pre,post,ds,rfl,h1,h2⟩:=h
  rw [List.length_append]
  refine seq_wp hc ds pre k st (fun j hj=>by have:=hr j;rwa [List.getElem?_append_left hj] at this) post.length hnb h1 (fun o ho=>hok o (by simp [ho])) (fun E a w s=>?_) E a w s
  rcases h2 with ⟨rfl,h3⟩|⟨o,r,rfl,h3,h4⟩
  · exact hQ _ _ _ _ h3 s
  · have ho:ops[k+pre.length]?=some o:=by have:=hr pre.length;simpa using this.symm
    refine h4 (k+pre.length) (Nat.le_trans hnb (after_nb ds _ _ h1).1) ho (fun j=>?_) (by simp at hk;omega) (fun o' ho'=>hok o' (List.mem_append_right _ ho')) nn ro Q' hQ E a w s ?_
    · have:=hr (pre.length+1+j)
      rw [List.getElem?_append_right (by omega),show pre.length+1+j - pre.length=j+1 by omega,List.getElem?_cons_succ,show k+(pre.length+1+j)=k+pre.length+1+j by omega] at this
      exact this
    · exact wantedA_sound (E:=E) (w:=w) s.size h3 fun j want d' hg hd=>⟨(hok o (by simp)).2.2 j want d' hg hd,s.slots d'⟩
theorem seqOk_spec {N:Nat} {ops:Array Oper} (hd:seqOk N ops=true):∀o∈ops.toList,((∀d,o.dst=some d→d < N)∧∀cc,o.op≠.defer cc)∧(∀x∈o.op.operands,constOk x=true)∧∀j want d,o.guard=some (j,want)→(ops[j]?).bind (·.dst)=some d→d < N:=by
  intro o ho
  simp only [seqOk,List.all_eq_true,Bool.and_eq_true] at hd
  obtain ⟨⟨⟨h1,hnd⟩,h2⟩,h3⟩:=hd o ho
  refine ⟨⟨fun d hd=>by simpa [hd] using h1,ndB_spec hnd⟩,fun x hx=>h2 x (by simpa using hx),fun j want d hg hd=>?_⟩
  simpa [hg,hd] using h3
theorem Wp_region_seq {id:Nat} {ops:Array Oper} (hc:CtxOk c) (hnb:c.nb0≤st.nb) (hd:seqOk c.N ops=true)
    (h:OutK c.P c.G c.ns ops (HandS c ops fun st'=>Q .normal st') (absGo c.tt c.ns ops ops.toList st [] []) fun st' _=>Q .normal st'):Wp c (.region id ops false) Q st:=by
  intro nn ro hr E a w s
  have h:=(absGo_sound hc.tt _ _ _ _ h).2
  refine wpIn_region ?_
  have:=seq_runK (nn:=nn) (ro:=ro) hc (k:=0) h (by simp) (by simp) hnb (seqOk_spec hd) (fun e a w=>∃st E,SR c st E a w∧Q e st) (fun st' E a w hq s=>⟨st',E,s,hq⟩) E a w s
  rw [←List.range_eq_range'] at this;simpa using this
/-! ## A body -/
def resA (tt:TypeId→Option TyI) (r:ResultVar) (st:St) (K:AV→Prop):Prop:=
  match r with
  | .tmp t=>K (st.t t)
  | .cell p T => match st.t p, tt T with
    | .one (.ptr b sz i off), some ti => match st.h b with
      | some bx => match subL (bx.g i) off ti.size with
        | some ls => match mkAV ti.agg ls with
          | some y=>(i < bx.n∧sz=bx.sz∧0 < ti.size)∧K y
          | none=>False
        | none=>False
      | none=>False
    | _,_=>False
def resL (tt:TypeId→Option TyI) (st:St):List ResultVar→List AV→(List AV→Prop)→Prop
  | [],acc,K=>K acc
  | r :: rs,acc,K=>resA tt r st fun y=>resL tt st rs (acc++ [y]) K
def oneOr (l:List AV):AV:=match l with
  | [x]=>x
  | l=>.tup l
def Ends (c:Ctx) (fn:Func) (r:AV) (e:Exit) (st:St):Prop:=
  (e= .normal∨e= .ret)∧resL c.tt st fn.results.toList [] fun l=>Sub (oneOr l) r
def resO (tt:TypeId→Option TyI) (st:St):List ResultVar→List AV→List Prop→Option (List Prop×AV)
  | [],acc,ps=>some (ps,oneOr acc)
  | .tmp t :: rs,acc,ps=>resO tt st rs (acc++ [st.t t]) ps
  | .cell p T :: rs, acc, ps => match st.t p, tt T with
    | .one (.ptr b sz i off), some ti => match st.h b with
      | some bx => match subL (bx.g i) off ti.size with
        | some ls => match mkAV ti.agg ls with
          | some y=>resO tt st rs (acc++ [y]) ((i < bx.n∧sz=bx.sz∧0 < ti.size) :: ps)
          | none=>none
        | none=>none
      | none=>none
    | _,_=>none
def EndK (out:Option (List Prop×AV)) (r:AV):Prop:=match out with
  | some (ps,x)=>AllP ps∧Sub x r
  | none=>False
theorem endK_some {ps:List Prop} {x r:AV} (hp:AllP ps) (h:Sub x r):EndK (some (ps,x)) r:=⟨hp,h⟩
theorem endK_is {out out':Option (List Prop×AV)} {r:AV} (e:Is out out') (h:EndK out' r):EndK out r:=by
  have e:out=out':=e
  rw [e];exact h
theorem endK_sound {tt:TypeId→Option TyI} {r:AV}:∀(rs:List ResultVar) (acc:List AV) (ps:List Prop),EndK (resO tt st rs acc ps) r→AllP ps∧resL tt st rs acc fun l=>Sub (oneOr l) r
  | [],acc,ps,h=>h
  | .tmp t :: rs,acc,ps,h=>endK_sound rs _ ps h
  | .cell p T :: rs, acc, ps, h => by
    unfold resO at h
    split at h
    · rename_i b sz i off ti hp ht
      split at h
      · rename_i bx hb
        split at h
        · rename_i ls hls
          split at h
          · rename_i y hy
            obtain ⟨⟨h1,h2⟩,h3⟩:=endK_sound rs _ _ h
            refine ⟨h2,?_⟩
            simp only [resL,resA,hp,ht,hb,hls,hy]
            exact ⟨h1,h3⟩
          · exact h.elim
        · exact h.elim
      · exact h.elim
    · exact h.elim
theorem ends_normal {fn:Func} {rs:Array ResultVar} {r:AV} (hr:fn.results=rs) (h:EndK (resO c.tt st rs.toList [] []) r):Ends c fn r .normal st:=by subst hr;exact ⟨.inl rfl,(endK_sound _ _ _ h).2⟩
theorem ends_ret {fn:Func} {rs:Array ResultVar} {r:AV} (hr:fn.results=rs) (h:EndK (resO c.tt st rs.toList [] []) r):Ends c fn r .ret st:=by subst hr;exact ⟨.inr rfl,(endK_sound _ _ _ h).2⟩
def resRun (tmps:Array Value):ResultVar→Sem Value
  | .tmp t=>pure (tmps.getD t undef)
  | .cell p T=>do loadVar T (←asAddr (tmps.getD p undef))
theorem results_eq (fn:Func) (tmps:Array Value):results fn tmps=(do
    let vs ←fn.results.mapM (resRun tmps)
    pure (if h:vs.size=1 then vs[0] else .tuple vs)):=by
  unfold results
  refine congrArg (fun g=>Bind.bind (Array.mapM g fn.results) _) ?_
  funext x;cases x <;> rfl
theorem resA_sound (hc:CtxOk c) {E:Env} {a:Act} {w:World} (s:SR c st E a w) {r:ResultVar} {K:AV→Prop} (h:resA c.tt r st K) :
    ∃y v,K y∧RV E w y v∧(resRun a.tmps r).run c.P w= .ok v w:=by
  cases r with
  | tmp t=>exact ⟨_,_,h,s.slots t,rfl⟩
  | cell p T =>
    simp only [resA] at h
    split at h
    · rename_i b sz i off ti hp ht
      split at h
      · rename_i bx hb
        split at h
        · rename_i ls hls
          split at h
          · rename_i y hy
            obtain ⟨⟨h1,h2,h3⟩,h4⟩:=h
            have hv:=s.slots p
            rw [hp] at hv
            obtain ⟨_,k,h5,h6⟩:=hv
            simp only [List.cons.injEq,and_true] at h6
            obtain ⟨k',c',Tb,es,g1,g2,g3,g4,g5,g6,g7⟩:=(s.boxes b bx hb).range h1
            rw [h5] at g1;cases g1
            rcases subL_R g5 hls with ⟨h11,h12⟩|⟨h11,_⟩
            · subst h2
              obtain ⟨v,h13,h14⟩:=run_loadAt_cells (hc.tt _ _ ht) (rangeAt_sub g6 off ti.size) (by simp;omega) h11 hy
              refine ⟨y,v,h4,h14,?_⟩
              have:(Instr.loadAt T (.pointer (some ⟨k,i*bx.sz+off,none⟩)))=loadVar T ⟨k,i*bx.sz+off,none⟩:=rfl
              rw [this] at h13
              simp only [resRun,h6,asAddr]
              exact h13
            · omega
          · exact h.elim
        · exact h.elim
      · exact h.elim
    · exact h.elim
theorem resL_sound (hc:CtxOk c) {E:Env} {a:Act} {w:World} (s:SR c st E a w):∀(rs:List ResultVar) (acc:List AV) (vacc:List Value) (K:List AV→Prop),resL c.tt st rs acc K→RVs E w acc vacc→
    ∃l vs,K l∧RVs E w l (vacc++vs)∧(rs.mapM (resRun a.tmps)).run c.P w= .ok vs w
  | [],acc,vacc,K,h,hv=>⟨acc,[],h,by simpa using hv,rfl⟩
  | r :: rs, acc, vacc, K, h, hv => by
    obtain ⟨y,v,h1,h2,h3⟩:=resA_sound hc s h
    have app:∀(xs:List AV) (us:List Value),RVs E w xs us→RVs E w (xs++ [y]) (us++ [v]):=by
      intro xs
      induction xs with
      | nil=>intro us h;obtain rfl:us= []:=h;exact ⟨v,[],rfl,h2,rfl⟩
      | cons x xs ih=>intro us h;obtain ⟨u,us',rfl,h4,h5⟩:=h;exact ⟨u,us'++ [v],by simp,h4,ih _ h5⟩
    obtain ⟨l,vs,h4,h5,h6⟩:=resL_sound hc s rs (acc++ [y]) (vacc++ [v]) K h1 (app _ _ hv)
    refine ⟨l,v :: vs,h4,by simpa using h5,?_⟩
    rw [List.mapM_cons]
    simp only [Sem.run_bind,h3,Result.andThen_ok,h6,Sem.run_pure]
theorem resL_runs (hc:CtxOk c) {E:Env} {a:Act} {w:World} (s:SR c st E a w):∀(rs:List ResultVar) (acc:List AV) (K:List AV→Prop),resL c.tt st rs acc K→∀r∈rs,∃v,(resRun a.tmps r).run c.P w= .ok v w
  | [],_,_,_,r,h=>by cases h
  | r' :: rs, acc, K, h, r, hr => by
    obtain ⟨y,v,h1,h2,h3⟩:=resA_sound hc s h
    rcases List.mem_cons.1 hr with rfl|hr
    · exact ⟨v,h3⟩
    · exact resL_runs hc s rs _ K h1 r hr
theorem RVs_len {E:Env} {w:World}:∀{l:List AV} {vs:List Value},RVs E w l vs→l.length=vs.length
  | [],_,h=>by obtain rfl:=h;rfl
  | _ :: _,_,h=>by obtain ⟨_,_,rfl,_,h⟩:=h;simp [RVs_len h]
theorem run_mapM_list' {P:Program} {w:World} {f:ResultVar→Sem Value}:∀(l:List ResultVar) (acc:Array Value) {vs:List Value},(l.mapM f).run P w= .ok vs w→
    (∀r∈l,∃v,(f r).run P w= .ok v w)→(l.foldlM (fun (bs:Array Value) (a:ResultVar)=>(do let b ←f a;pure (bs.push b):Sem (Array Value))) acc).run P w= .ok (acc++vs.toArray) w
  | [], acc, vs, h, _ => by
    simp only [List.mapM_nil,Sem.run_pure,Result.ok.injEq,and_true] at h
    subst h;simp
  | r :: l, acc, vs, h, hr => by
    obtain ⟨v,hv⟩:=hr r (by simp)
    rw [List.mapM_cons] at h
    simp only [Sem.run_bind,hv,Result.andThen_ok] at h
    cases hl:(l.mapM f).run P w with
    | halt _ _=>rw [hl] at h;cases h
    | ok us w1 =>
      rw [hl] at h
      simp only [Result.andThen_ok,Sem.run_pure,Result.ok.injEq] at h
      obtain ⟨h1,h2⟩:=h
      subst h2 h1
      have:=run_mapM_list' l (acc.push v) hl (fun r' h'=>hr r' (by simp [h']))
      simp only [List.foldlM_cons,Sem.run_bind,hv,Result.andThen_ok,Sem.run_pure,this]
      simp
theorem run_mapM_array {P:Program} {w:World} {f:ResultVar→Sem Value} {xs:Array ResultVar} {vs:List Value} (h:(xs.toList.mapM f).run P w= .ok vs w) (hr:∀r∈xs.toList,∃v,(f r).run P w= .ok v w) :
    (xs.mapM f).run P w= .ok vs.toArray w:=by
  rw [Array.mapM_eq_foldlM,←Array.foldlM_toList]
  have:=run_mapM_list' xs.toList #[] h hr
  simpa using this
def nthA:List AV→Nat→AV
  | [],_=>.u
  | x :: _,0=>x
  | _ :: r,n+1=>nthA r n
theorem nthA_eq:∀(l:List AV) (n:Nat),nthA l n=l.getD n .u
  | [],_=>rfl
  | _ :: _,0=>rfl
  | _ :: r,n+1=>by simp only [nthA,nthA_eq r n,List.getD_cons_succ]
theorem resA_gh {tt:TypeId→Option TyI} {g:Env→World→Prop} (r:ResultVar) (K:AV→Prop):resA tt r { st with gh:=g } K=resA tt r st K:=by cases r <;> rfl
theorem resL_gh {tt:TypeId→Option TyI} {g:Env→World→Prop}:∀(rs:List ResultVar) (acc:List AV) (K:List AV→Prop),resL tt { st with gh:=g } rs acc K=resL tt st rs acc K
  | [],_,_=>rfl
  | r :: rs, acc, K => by
    simp only [resL,resA_gh]
    exact congrArg _ (funext fun y=>resL_gh rs _ K)
theorem SR.take (hc:CtxOk c) {E:Env} {a:Act} {w:World} (s:SR c st E a w) {D:Nat} (hM:E.M D) (hD:c.w0.heap.size≤D) (hd:DefR c E (w.putObj D (.deferred none)) a.defers):SR c { st with gh:=tru } E a (w.putObj D (.deferred none)):=by
  have hne:∀k,k≠D→(w.putObj D (.deferred none)).heap[k]?=w.heap[k]?:=fun k h=>World.putObj_heap_other h
  have hsz:(w.putObj D (.deferred none)).heap.size=w.heap.size:=by simp [World.putObj]
  have hk:Keeps E w E (w.putObj D (.deferred none)):=⟨fun _ _ h=>h,fun k h=>⟨by rw [hsz];exact h.1,h.2⟩,fun k h=>hne k fun e=>h.2.1 (e ▸ hM)⟩
  refine ⟨s.size,hd,fun n=>hk.rv (s.slots n),fun b bx hb=>(s.boxes b bx hb).keeps hk fun k hbk=>hne k fun e=>?_,⟨fun k h=>by rw [hsz];exact s.env.m k h,fun b k h=>by rw [hsz];exact s.env.r b k h,s.env.inj⟩,
    ⟨s.below.os,s.below.tape,s.below.output,by rw [hsz];exact s.below.size,fun k hk hw=>(hne k (by omega)).trans (s.below.block k hk hw)⟩,s.own,s.low,s.m,s.free,s.ownM,ghR_tru⟩
  rcases Nat.lt_or_ge b c.ns with h|h
  · have h1:=s.low b (Nat.lt_of_lt_of_le h hc.ns)
    rw [hbk] at h1
    have:=hc.r0 b k h1.symm
    omega
  · exact s.ownM b k h hbk (e ▸ hM)
theorem SR.gtru {E:Env} {a:Act} {w:World} (s:SR c st E a w):SR c { st with gh:=tru } E a w:=
  ⟨s.size,s.defers,s.slots,s.boxes,s.env,s.below,s.own,s.low,s.m,s.free,s.ownM,ghR_tru⟩
theorem SR.defs {E:Env} {a:Act} {w:World} (s:SR c st E a w) {ds:List Deferred} (hd:DefR c E w ds):SR c st E { a with defers:=ds } w:=
  ⟨s.size,hd,s.slots,s.boxes,s.env,s.below,s.own,s.low,s.m,s.free,s.ownM,s.gh⟩
theorem leaves_of {fn:Func} {R:Ending→World→Prop} (hc:CtxOk c):∀(ms:List Nat) (st:St) (E:Env) (a:Act) (w:World),SR c st E a w→a.defers= []→ms.Nodup→(∀D∈ms,E.M D∧c.w0.heap.size≤D∧w.heap[D]?=some (.deferred (some [])))→
    (∀w',SR c { st with gh:=tru } E a w'→∃v,(results fn a.tmps).run c.P w'= .ok v w'∧R (.returned v) w')→LeavesInM Fence.wide 5 c.P fn a.tmps R (ms.map mkD) .returning w
  | [],st,E,a,w,s,_,_,_,h=>h w s.gtru
  | D :: ms, st, E, a, w, s, ha, hn, hD, h => by
    obtain ⟨h1,h2,h3⟩:=hD D (by simp)
    obtain ⟨h4,h5⟩:=List.nodup_cons.1 hn
    refine ⟨by simp,.inl ⟨D,w.putObj D (.deferred none),rfl,run_takeDeferred h3,?_⟩⟩
    refine leaves_of hc ms { st with gh:=tru } E a _ (s.take hc h1 h2 (by rw [ha];exact defR_nil)) ha h5 (fun D' hD'=>?_) h
    obtain ⟨g1,g2,g3⟩:=hD D' (by simp [hD'])
    exact ⟨g1,g2,(World.putObj_heap_other (fun e=>by subst e;exact h4 hD')).trans g3⟩
theorem calls_of_Q (hc:CtxOk c) {f:FuncId} {fn:Func} {code:Code} (hf:c.P.funcs[f]?=some fn) (hb:fn.body=some code) {args:Array Value} {w:World} {R:Ending→World→Prop}
    (h:code.wpIn (WF none) 5 c.P (fun e a w=>∃st E,SR c st E a w∧Q e st) { tmps:=args++Array.replicate (fn.ntmps - args.size) undef,defers:=[] } w)
    (hq:∀e a w' st E,SR c { st with gh:=tru } E a w'→Q e st→(e= .normal∨e= .ret)∧∃v,(results fn a.tmps).run c.P w'= .ok v w'∧R (.returned v) w'):Calls c.P f args w R:=by
  refine callsIn_wide.1 (callsIn_of_wp_marks (F:=Fence.wide) (n:=5) hf hb trivial (wpIn_mono h ?_))
  rintro e a w' ⟨st,E,s,q⟩
  obtain ⟨ms,h1,h0,h2,h3⟩:=s.defers
  have hl:LeavesInM Fence.wide 5 c.P fn a.tmps R a.defers .returning w':=by
    rw [h1]
    exact leaves_of hc ms st E { a with defers:=[] } w' (s.defs defR_nil) rfl h2 h3 fun w'' s''=>(hq e _ _ st E s'' q).2
  rcases (hq e a w' st E s.gtru q).1 with rfl|rfl
  · exact hl
  · exact hl
theorem spec_of_wp {P:Program} {G:World→Prop} {tt:TypeId→Option TyI} (htt:TtOk P tt) {f:FuncId} {fn:Func} {code:Code} (hf:P.funcs[f]?=some fn) (hb:fn.body=some code) (hname:(fn.name == "runtime.NumGoroutine")=false)
    (hG:∀w w',Below w.heap.size w w'→G w→G w') {args:List AV} {r:AV} (hcl:clV 0 args∧r.cl 0) (hn:args.length≤fn.ntmps)
    (h:∀w0 E0,CtxOk ⟨P,tt,G,fn.ntmps,w0,E0,0,fun _=>False,0,[]⟩→Wp ⟨P,tt,G,fn.ntmps,w0,E0,0,fun _=>False,0,[]⟩ code (Ends ⟨P,tt,G,fn.ntmps,w0,E0,0,fun _=>False,0,[]⟩ fn r) ⟨nthA args,noBox,0,tru⟩):Pure P G f args r:=by
  refine ⟨⟨fn,hf,hname,by simp [hb]⟩,hcl,fun E w vs hE hok hg _ hvs=>?_⟩
  have hlen:=RVs_len hvs
  have hctx:CtxOk ⟨P,tt,G,fn.ntmps,w,E,0,fun _=>False,0,[]⟩:=⟨htt,fun w' hw=>hG w w' hw.plain hg,fun b hb=>hE b hb,Nat.le_refl _,hok.m,hok.r⟩
  refine calls_of_Q hctx hf hb (h w E hctx 5 none (fun _=>rfl) E _ w ⟨?_,defR_nil,fun n=>?_,(fun b bx hb=>(by cases hb)),hok,BelowX.refl _,(fun b k _ hbk=>?_),(fun b hb=>absurd hb (Nat.not_lt_zero _)),⟨fun _ h=>h,fun _ h=>.inl h⟩,fun b hb=>hE b hb,(fun b k _ hbk=>by have hbk:E.ρ b=some k:=hbk;rw [hE b (Nat.zero_le _)] at hbk;cases hbk),ghR_tru⟩) ?_
  · simp;omega
  · have get:∀(xs:List AV) (us:List Value),RVs E w xs us→∀n,RV E w (xs.getD n .u) ((us++List.replicate (fn.ntmps - us.length) undef).getD n undef):=by
      intro xs us h
      have gen:∀(xs:List AV) (us:List Value) (tl:List Value),RVs E w xs us→∀n,RV E w (xs.getD n .u) ((us++tl).getD n undef):=by
        intro xs
        induction xs with
        | nil=>intro us tl h n;simp only [List.getD_nil];trivial
        | cons x xs ih =>
          intro us tl h n
          obtain ⟨u,us',rfl,h4,h5⟩:=h
          cases n with
          | zero=>exact h4
          | succ n=>exact ih us' tl h5 n
      exact gen xs us _ h
    have:=get args vs hvs n
    have e:(vs.toArray++Array.replicate (fn.ntmps - vs.toArray.size) undef).getD n undef=(vs++List.replicate (fn.ntmps - vs.length) undef).getD n undef:=by
      rw [Array.getD_eq_getD_getElem?,List.getD_eq_getElem?_getD,←Array.getElem?_toList]
      simp
    show RV E w (nthA args n) _
    rw [nthA_eq,e];exact this
  · have hbk:E.ρ b=some k:=hbk
    rw [hE b (Nat.zero_le _)] at hbk;cases hbk
  · rintro e a w' st E' s ⟨he,hr⟩
    rw [←resL_gh (g:=tru)] at hr
    obtain ⟨l,vs',h1,h2,h3⟩:=resL_sound hctx s fn.results.toList [] [] _ hr rfl
    have hres:∃v,(results fn a.tmps).run P w'= .ok v w'∧RV E' w' (oneOr l) v:=by
      have hm:(results fn a.tmps).run P w'= .ok (if h:vs'.toArray.size=1 then vs'.toArray[0] else .tuple vs'.toArray) w':=by
        rw [results_eq]
        have:(fn.results.mapM (resRun a.tmps)).run P w'= .ok vs'.toArray w':=run_mapM_array h3 (resL_runs hctx s _ _ _ hr)
        simp only [Sem.run_bind,this,Result.andThen_ok,Sem.run_pure]
      refine ⟨_,hm,?_⟩
      simp only [List.nil_append] at h2
      match l,vs',h2 with
      | [],vs',h2=>obtain rfl:vs'= []:=h2;exact ⟨[],rfl,rfl⟩
      | [x],vs',h2=>obtain ⟨v,_,rfl,h4,h5⟩:=h2;obtain rfl:=h5;exact h4
      | x :: y :: l, vs', h2 =>
        have:=RVs_len h2
        simp at this
        have hne:¬vs'.toArray.size=1:=by simp;omega
        rw [dif_neg hne]
        exact ⟨vs',rfl,h2⟩
    obtain ⟨v,h4,h5⟩:=hres
    have hinto:Into 0 E' E w':=⟨fun _ _ h=>absurd h (by omega),fun k hk=>⟨hk.1,fun h=>hk.2.1 (s.m.1 k h),fun b=>by rw [hE b (Nat.zero_le _)];simp⟩⟩
    exact ⟨he,v,h4,v,rfl,hinto.rv hcl.2 (h1 _ _ _ h5),s.below.plain⟩
theorem get_arg {E:Env} {w:World} {n:Nat} {xs:List AV} {us:List Value} (h:RVs E w xs us) (m:Nat):RV E w (nthA xs m) ((us.toArray++Array.replicate (n - us.toArray.size) undef).getD m undef):=by
  have gen:∀(xs:List AV) (us:List Value) (tl:List Value),RVs E w xs us→∀n,RV E w (xs.getD n .u) ((us++tl).getD n undef):=by
    intro xs
    induction xs with
    | nil=>intro us tl h n;simp only [List.getD_nil];trivial
    | cons x xs ih =>
      intro us tl h n
      obtain ⟨u,us',rfl,h4,h5⟩:=h
      cases n with
      | zero=>exact h4
      | succ n=>exact ih us' tl h5 n
  have e:(us.toArray++Array.replicate (n - us.toArray.size) undef).getD m undef=(us++List.replicate (n - us.length) undef).getD m undef:=by
    rw [Array.getD_eq_getD_getElem?,List.getD_eq_getElem?_getD,←Array.getElem?_toList]
    simp
  rw [nthA_eq,e];exact gen xs us _ h m
theorem results_of {P:Program} {fn:Func} {E:Env} {w:World} {tmps:Array Value} {l:List AV} {vs:List Value} (hl:RVs E w l vs) (h1:(fn.results.toList.mapM (resRun tmps)).run P w= .ok vs w) (h2:∀r∈fn.results.toList,∃v,(resRun tmps r).run P w= .ok v w) :
    ∃v,(results fn tmps).run P w= .ok v w∧RV E w (oneOr l) v:=by
  have hm:(results fn tmps).run P w= .ok (if h:vs.toArray.size=1 then vs.toArray[0] else .tuple vs.toArray) w:=by
    rw [results_eq]
    have:(fn.results.mapM (resRun tmps)).run P w= .ok vs.toArray w:=run_mapM_array h1 h2
    simp only [Sem.run_bind,this,Result.andThen_ok,Sem.run_pure]
  refine ⟨_,hm,?_⟩
  match l,vs,hl with
  | [],vs,h2=>obtain rfl:vs= []:=h2;exact ⟨[],rfl,rfl⟩
  | [x],vs,h2=>obtain ⟨v,_,rfl,h4,h5⟩:=h2;obtain rfl:=h5;exact h4
  | x :: y :: l, vs, h2 =>
    have:=RVs_len h2
    simp at this
    have hne:¬vs.toArray.size=1:=by simp;omega
    rw [dif_neg hne]
    exact ⟨vs,rfl,h2⟩
def EndsF (t sz m n cc:Nat) (g:Nat→List Leaf) (e:Exit) (st:St):Prop:=
  (e= .normal∨e= .ret)∧∃b g',st.t t= .one (.own b sz 0 n cc)∧st.h b=some ⟨sz,m,g',false⟩∧∀i,i < m→g' i=g i
theorem fresh_of_wp {P:Program} {G:World→Prop} {tt:TypeId→Option TyI} (htt:TtOk P tt) {f:FuncId} {fn:Func} {code:Code} (hf:P.funcs[f]?=some fn) (hb:fn.body=some code) (hname:(fn.name == "runtime.NumGoroutine")=false)
    (hG:∀w w',Below w.heap.size w w'→G w→G w') {args:List AV} (hcl:clV 0 args) (hn:args.length≤fn.ntmps) {sz m n cc t:Nat} {g:Nat→List Leaf} (hg:∀i,i < m→clL 0 (g i)) (hres:fn.results=#[.tmp t])
    (h:∀w0 E0,CtxOk ⟨P,tt,G,fn.ntmps,w0,E0,0,fun _=>False,0,[]⟩→Wp ⟨P,tt,G,fn.ntmps,w0,E0,0,fun _=>False,0,[]⟩ code (EndsF t sz m n cc g) ⟨nthA args,noBox,0,tru⟩):FreshC P G f args sz m n cc g:=by
  refine ⟨⟨fn,hf,hname,by simp [hb]⟩,hcl,hg,fun E w vs hE hok hgw hvs=>?_⟩
  have hlen:=RVs_len hvs
  have hctx:CtxOk ⟨P,tt,G,fn.ntmps,w,E,0,fun _=>False,0,[]⟩:=⟨htt,fun w' hw=>hG w w' hw.plain hgw,fun b _=>hE b,Nat.le_refl _,hok.m,hok.r⟩
  refine calls_of_Q hctx hf hb (h w E hctx 5 none (fun _=>rfl) E _ w ⟨?_,defR_nil,fun n=>get_arg hvs n,(fun b bx hb=>(by cases hb)),hok,BelowX.refl _,(fun b k _ hbk=>?_),(fun b hb=>absurd hb (Nat.not_lt_zero _)),⟨fun _ h=>h,fun _ h=>.inl h⟩,fun b _=>hE b,(fun b k _ hbk=>by have hbk:E.ρ b=some k:=hbk;rw [hE b] at hbk;cases hbk),ghR_tru⟩) ?_
  · simp;omega
  · have hbk:E.ρ b=some k:=hbk
    rw [hE b] at hbk;cases hbk
  · rintro e a w' st E' s ⟨he,b,g',h1,h2,h3⟩
    have hv:=s.slots t
    rw [h1] at hv
    obtain ⟨_,k,h4,h5⟩:=hv
    simp only [List.cons.injEq,and_true,Nat.zero_mul] at h5
    have hrun:(results fn a.tmps).run P w'= .ok (.slice (some ⟨k,0,none⟩) n cc) w':=by
      rw [results_eq,hres]
      simp [resRun,h5]
    have hk:w.heap.size≤k:=by
      rcases s.own b k (Nat.zero_le _) h4 with h|h
      · exact h
      · exact h.1.elim
    have hkk:=s.env.r _ _ h4
    have hbox:BoxR (E.add 0 k) w' 0 ⟨sz,m,g,false⟩:=by
      have hb1:BoxR E' w' b ⟨sz,m,g,false⟩:=by
        rcases s.boxes b _ h2 with ⟨q,_⟩|⟨k',c,T,q1,q2,q3,q4⟩
        · cases q
        exact .inr ⟨k',c,T,q1,q2,q3,fun i hi=>by have q:=q4 i hi;dsimp only at q ⊢;rw [h3 i hi] at q;exact q⟩
      refine hb1.into (b':=0) ⟨fun _ _ h=>absurd h (Nat.not_lt_zero _),fun j hj=>?_⟩ hg (fun k' hk'=>by rw [h4] at hk';cases hk';simp [Env.add])
      refine ⟨hj.1,fun hM=>hj.2.1 (s.m.1 _ hM),fun x hx=>?_⟩
      simp only [Env.add] at hx
      split at hx
      · cases hx;exact hj.2.2 b h4
      · rw [hE x] at hx;cases hx
    exact ⟨he,_,hrun,k,rfl,hk,hkk,s.below.plain,hbox⟩
def EndsW (c:Ctx) (fn:Func) (r:AV) (bx:Box) (e:Exit) (st:St):Prop:=
  (e= .normal∨e= .ret)∧(resL c.tt st fn.results.toList [] fun l=>Sub (oneOr l) r)∧∃g',st.h 0=some ⟨bx.sz,bx.n,g',false⟩∧∀i,i < bx.n→g' i=bx.g i
theorem write_of_wp {P:Program} {G:World→Prop} {tt:TypeId→Option TyI} (htt:TtOk P tt) {f:FuncId} {fn:Func} {code:Code} (hf:P.funcs[f]?=some fn) (hb:fn.body=some code) (hname:(fn.name == "runtime.NumGoroutine")=false)
    (hG:∀w,G w) {args:List AV} (hone:∀x∈args,∃l:Leaf,x= .one l∧((∃sz i n c,l= .own 0 sz i n c)∨l.clB=true)) (hn:args.length≤fn.ntmps) {bx bx':Box} {r:AV} (hcl:r.cl 0) (hg:(∀i,i < bx.n→clL 0 (bx.g i))∧∀i,i < bx'.n→clL 0 (bx'.g i))
    (h:∀w0 E0 W,CtxOk ⟨P,tt,G,fn.ntmps,w0,E0,1,W,0,[]⟩→Wp ⟨P,tt,G,fn.ntmps,w0,E0,1,W,0,[]⟩ code (EndsW ⟨P,tt,G,fn.ntmps,w0,E0,1,W,0,[]⟩ fn r bx') ⟨nthA args,fun b=>match b with|0=>some bx|_+1=>none,1,tru⟩) (hro:bx.ro=false:=by rfl):WriteC P G f bx args r bx':=by
  refine ⟨hro,⟨fn,hf,hname,by simp [hb]⟩,hone,hcl,hg,fun E w vs k hE h0 hok hM hgw hbx hvs=>?_⟩
  have hlen:=RVs_len hvs
  have hctx:CtxOk ⟨P,tt,G,fn.ntmps,w,E,1,fun j=>j=k,0,[]⟩:=⟨htt,fun w' _=>hG w',fun b hb=>hE b (by have:1≤b:=hb;omega),Nat.zero_le _,hok.m,hok.r⟩
  refine calls_of_Q hctx hf hb (h w E _ hctx 5 none (fun _=>rfl) E _ w ⟨?_,defR_nil,fun n=>get_arg hvs n,(fun b bx1 hb=>?_),hok,BelowX.refl _,(fun b k' _ hbk=>?_),(fun b hb=>rfl),⟨fun _ h=>h,fun _ h=>.inl h⟩,fun b hb=>hE b (by have:1≤b:=hb;omega),(fun b k' _ hbk=>by
    have hbk:E.ρ b=some k':=hbk
    by_cases e:b=0
    · subst e;rw [h0] at hbk;cases hbk;exact hM
    · rw [hE b e] at hbk;cases hbk),ghR_tru⟩) ?_
  · simp;omega
  · match b,hb with
    | 0,hb=>cases hb;exact hbx
  · have hbk:E.ρ b=some k':=hbk
    by_cases e:b=0
    · subst e;rw [h0] at hbk;cases hbk;exact .inr ⟨rfl,hM⟩
    · rw [hE b e] at hbk;cases hbk
  · rintro e a w' st E' s ⟨he,hr,g',h2,h3⟩
    rw [←resL_gh (g:=tru)] at hr
    obtain ⟨l,vs',h4,h5,h6⟩:=resL_sound hctx s fn.results.toList [] [] _ hr rfl
    obtain ⟨v,h7,h8⟩:=results_of (by simpa using h5) h6 (resL_runs hctx s _ _ _ hr)
    have hlow:E'.ρ 0=some k:=by rw [s.low 0 (by exact Nat.zero_lt_one)];exact h0
    have hinto:Into 0 E' E w':=⟨fun _ _ h=>absurd h (Nat.not_lt_zero _),fun j hj=>⟨hj.1,fun h=>hj.2.1 (s.m.1 _ h),fun x hx=>by
      by_cases e:x=0
      · subst e;rw [h0] at hx;cases hx;exact hj.2.2 0 hlow
      · rw [hE x e] at hx;cases hx⟩⟩
    have hwr:Wrote k w w':=⟨s.below.os,s.below.tape,s.below.output,s.below.size,fun j hj hk=>s.below.block j hj hk⟩
    have hbox:BoxR E w' 0 bx':=by
      have hb1:BoxR E' w' 0 bx':=by
        rcases s.boxes 0 _ h2 with ⟨q,_⟩|⟨k',c,T,q1,q2,q3,q4⟩
        · cases q
        exact .inr ⟨k',c,T,q1,q2,q3,fun i hi=>by have q:=q4 i hi;dsimp only at q ⊢;rw [h3 i hi] at q;exact q⟩
      exact hb1.into (b':=0) hinto hg.2 (fun k' hk'=>by rw [hlow] at hk';cases hk';exact h0)
    exact ⟨he,v,h7,v,rfl,hinto.rv hcl (h4 _ _ _ h8),hwr,hbox⟩
def boxOf (bxs:List Box) (b:Nat):Option Box:=bxs[b]?
-- axioms of write_of_wp
-- axioms of fresh_of_wp
-- axioms of spec_of_wp
end Go.Ax
end
