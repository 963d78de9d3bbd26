/- Lemmas on the program and its library, part Vx19. -/
import Derived.Test.YtalgbhjnbgkneaaGreatDoorZVx15
set_option linter.unusedVariables false
set_option linter.unusedSimpArgs false
section
namespace Go.Vx
open Go.Ax
open Go.RowKit (Below)
section
variable {P:Program} {w0:World} {ng N lim:Nat}
theorem ent_outer {s:Fs} {S1:Sx} {ps:Array Tmp} {asg body:Code} (hng:ng≤s.S.nb) (hS1:S1.f=setB (setB s.S.f s.S.nb (some .dfr)) (s.S.nb+1) (some (.loop .ready none s.t N ps asg body))) (hS1n:S1.nb=s.S.nb+2)
    (ro:Option Nat) (ρ:Nat→Ph) (w:World) (a:Act) (fn:FuncId) (hw:WR w0 ng ρ s.S.f w) (hf:∀b,s.S.nb≤b→b < S1.nb→ρ b= .fresh) (hF:FR ρ N s a) (hR:RoR ρ none ro) :
    ∃l mark w1 ρ1 sz,(Instr.enterLoop fn a.tmps ps asg body ro).run P w= .ok (l,mark) w1∧WR w0 ng ρ1 S1.f w1∧Eff ρ w ρ1 w1 (fun b=>s.S.nb≤b∧b < S1.nb)∧ρ1 (s.S.nb+1)= .live l sz∧DR ρ1 (s.S.nb :: s.ms) (mark++a.defers):=by
  have hR:ro=none:=hR
  subst hR
  have hrun:=run_enterLoop_outer (P:=P) (w:=w) fn a.tmps ps asg body
  obtain ⟨t1,t2⟩:=wr_new hw (hf s.S.nb (Nat.le_refl _) (by omega)) hng (below_alloc w (.deferred (some []))) (heap_alloc_lt _ _) (z:=.dfr) (s:=0) (heap_alloc_last _ _)
  have hfr:setP ρ s.S.nb (.live w.heap.size 0) (s.S.nb+1)= .fresh:=by
    simp only [setP,show ¬(s.S.nb+1=s.S.nb) by omega,if_false]
    exact hf _ (by omega) (by omega)
  have hsz:(w.alloc (.deferred (some []))).heap.size=w.heap.size+1:=by simp
  obtain ⟨q1,q2⟩:=wr_new t1 hfr (by omega) (below_alloc _ (.loop { state:=.ready,pending:=none,fn,tmps:=a.tmps,params:=ps,assign:=asg,body,defers:=w.heap.size })) (heap_alloc_lt _ _) (z:=.loop .ready none s.t N ps asg body) (s:=0)
    ⟨_,heap_alloc_last _ _,rfl,rfl,(hF.1.ext t2.ext).ext (ext_new hfr),rfl,rfl,rfl⟩
  refine ⟨_,_,_,_,0,hrun,?_,(t2.mono fun b hb=>?_).trans (q2.mono fun b hb=>?_),?_,_,_,rfl,?_,?_⟩
  · rw [hS1];exact q1
  · have hb:b=s.S.nb:=hb
    omega
  · have hb:b=s.S.nb+1:=hb
    omega
  · simp only [setP,if_true,hsz]
  · have:¬(s.S.nb=s.S.nb+1):=by omega
    simp only [setP,this,if_false,if_true]
  · exact (hF.2.ext t2.ext).ext q2.ext
theorem ent_inner {s:Fs} {S1:Sx} {ps:Array Tmp} {asg body:Code} {rb:Nat} {st:LoopState} {pend:Option Code} {t0:Tr VV} {N0:Nat} {ps0:Array Tmp} {asg0 body0:Code} (hng:ng≤s.S.nb) (hrb:s.S.f rb=some (.loop st pend t0 N0 ps0 asg0 body0))
    (hS1:S1.f=setB s.S.f s.S.nb (some (.loop .ready none s.t N ps asg body))) (hS1n:S1.nb=s.S.nb+1)
    (ro:Option Nat) (ρ:Nat→Ph) (w:World) (a:Act) (fn:FuncId) (hw:WR w0 ng ρ s.S.f w) (hf:∀b,s.S.nb≤b→b < S1.nb→ρ b= .fresh) (hF:FR ρ N s a) (hR:RoR ρ (some rb) ro) :
    ∃l mark w1 ρ1 sz,(Instr.enterLoop fn a.tmps ps asg body ro).run P w= .ok (l,mark) w1∧WR w0 ng ρ1 S1.f w1∧Eff ρ w ρ1 w1 (fun b=>s.S.nb≤b∧b < S1.nb)∧ρ1 s.S.nb= .live l sz∧DR ρ1 s.ms (mark++a.defers):=by
  obtain ⟨k,sz,hk,r,hr,_⟩:=hw.blk rb _ hrb
  have hR:ro=some k:=by
    have:=hR
    simp only [RoR,hk] at this
    exact this
  subst hR
  have hrun:=run_enterLoop_inner (P:=P) hr fn a.tmps ps asg body
  have hfr:=hf s.S.nb (Nat.le_refl _) (by omega)
  obtain ⟨q1,q2⟩:=wr_new hw hfr hng (below_alloc _ (.loop { state:=.ready,pending:=none,fn,tmps:=a.tmps,params:=ps,assign:=asg,body,defers:=r.defers })) (heap_alloc_lt _ _) (z:=.loop .ready none s.t N ps asg body) (s:=0)
    ⟨_,heap_alloc_last _ _,rfl,rfl,hF.1.ext (ext_new hfr),rfl,rfl,rfl⟩
  refine ⟨_,_,_,_,0,hrun,?_,q2.mono fun b hb=>?_,?_,?_⟩
  · rw [hS1];exact q1
  · have hb:b=s.S.nb:=hb
    omega
  · simp only [setP,if_true]
  · exact hF.2.ext q2.ext
end
section
variable (tt:TypeId→Option TyI) (ng:Nat) (isFn:FuncId→Bool) (call:CallF) (lim N:Nat) (rnd:Option Nat) (fuel:Nat)
def rangeEnd (t:Tr VV) (ms1:List Nat) (lb:Nat) (S2:Sx):Option (Ex×Fs):=match S2.f lb with
  | some (.loop st pend t0 N0 ps0 asg0 body0) => match st with
    | .busy=>none
    | _ => match jumpX pend with
      | some ex=>ifB (Tr.fits lb) (some (ex,⟨t,ms1,⟨S2.h.set lb (some (.loop .exhausted pend t0 N0 ps0 asg0 body0)),S2.nb⟩⟩))
      | none=>none
  | _=>none
def evRange (g:VV) (ps:Array Tmp) (asg body:Code) (s:Fs):Option (Ex×Fs):=match g with
  | .fn (.func gg) us vs => match isFn gg, rnd with
    | true, none => match Tr.fits (s.S.nb + 1) && Tr.fits s.S.nb with
      | true => match call (.f gg) (us ++ [.yl (s.S.nb + 1)] ++ vs) lim ⟨(s.S.h.set s.S.nb (some .dfr)).set (s.S.nb + 1) (some (.loop .ready none s.t N ps asg body)), s.S.nb + 2⟩ with
        | some (_,S2)=>rangeEnd s.t (s.S.nb :: s.ms) (s.S.nb+1) S2
        | none=>none
      | false=>none
    | true, some rb => match Tr.fits s.S.nb, s.S.f rb with
      | true, some (.loop _ _ _ _ _ _ _) => match call (.f gg) (us ++ [.yl s.S.nb] ++ vs) lim ⟨s.S.h.set s.S.nb (some (.loop .ready none s.t N ps asg body)), s.S.nb + 1⟩ with
        | some (_,S2)=>rangeEnd s.t s.ms s.S.nb S2
        | none=>none
      | _,_=>none
    | false,_=>none
  | _=>none
def evC:Code→Fs→Option (Ex×Fs)
  | .skip,s=>some (.norm,s)
  | .label _,s=>some (.norm,s)
  | .region _ ops draw, s => match evReg tt ng call lim N ops draw s.t s.S with
    | some (t',S')=>some (.norm,⟨t',s.ms,S'⟩)
    | none=>none
  | .seq x y, s => match evC x s with
    | some (.norm,s')=>evC y s'
    | some (e,s')=>some (e,s')
    | none=>none
  | .cond c x y, s => match okOpd ng c, evV (tvf s.t) c with
    | true,.s (.bool true)=>evC x s
    | true,.s (.bool false)=>evC y s
    | _,_=>none
  | .block id x, s => match evC x s with
    | some (.exit i, s') => match Nat.beq i id with
      | true=>some (.norm,s')
      | false=>some (.exit i,s')
    | some (e,s')=>some (e,s')
    | none=>none
  | .loop x,s=>iterC (evC x) fuel s
  | .scope x,s=>evC x s
  | .rangeFunc g ps asg body, s => match okOpd ng g with
    | true=>evRange isFn call lim N rnd (evV (tvf s.t) g) ps asg body s
    | false=>none
  | .exit id,s=>some (.exit id,s)
  | .ret,s=>some (.ret,s)
  | _,_=>none
end
section
variable {P:Program} {w0:World} {ng N lim:Nat} {rnd:Option Nat} {tt:TypeId→Option TyI} {isFn:FuncId→Bool} {call:CallF} {fuel:Nat}
theorem setS_f {h:Tr Blk} {nb nb' b:Nat} {x:Option Blk} (hb:Tr.fits b=true):(⟨h.set b x,nb⟩:Sx).f=setB (⟨h,nb'⟩:Sx).f b x:=by
  funext m
  show (h.set b x).get m=_
  rw [Tr.get_set hb];rfl
theorem evRange_sound (hcall:CallOk P w0 ng call) (hisF:∀f,isFn f=true→Callable P f) {g:Operand} {ps:Array Tmp} {asg body:Code} {s:Fs} {ex:Ex} {s':Fs} (hg:okOpd ng g=true) (hng:ng≤s.S.nb) (hlim:lim≤s.S.nb)
    (e:evRange isFn call lim N rnd (evV (tvf s.t) g) ps asg body s=some (ex,s')):CodeOk P w0 ng N lim rnd (.rangeFunc g ps asg body) s ex s':=by
  have fin:∀{S1 S2:Sx} {ms1:List Nat} {lb:Nat} {gg:FuncId} {us vs:List VV} {r:VV},evV (tvf s.t) g= .fn (.func gg) us vs→isFn gg=true→s.S.nb≤S1.nb→(s.S.nb≤lb∧lb < S1.nb)→(∀b,¬(s.S.nb≤b∧b < S1.nb)→S1.f b=s.S.f b)→
      call (.f gg) (us++ [.yl lb]++vs) lim S1=some (r,S2)→rangeEnd s.t ms1 lb S2=some (ex,s')→
      (∀(ro:Option Nat) (ρ:Nat→Ph) (w:World) (a:Act) (fn:FuncId),WR w0 ng ρ s.S.f w→(∀b,s.S.nb≤b→b < S1.nb→ρ b= .fresh)→FR ρ N s a→RoR ρ rnd ro→
        ∃l mark w1 ρ1 sz,(Instr.enterLoop fn a.tmps ps asg body ro).run P w= .ok (l,mark) w1∧WR w0 ng ρ1 S1.f w1∧Eff ρ w ρ1 w1 (fun b=>s.S.nb≤b∧b < S1.nb)∧ρ1 lb= .live l sz∧DR ρ1 ms1 (mark++a.defers))→
      CodeOk P w0 ng N lim rnd (.rangeFunc g ps asg body) s ex s':=by
    intro S1 S2 ms1 lb gg us vs r hgv hfn hnb hlb hfr hc he hent
    unfold rangeEnd at he
    split at he
    · rename_i st pend t0 N0 ps0 asg0 body0 hl
      split at he
      · cases he
      · rename_i hst
        split at he
        · rename_i ex' hj
          obtain ⟨hfit,he⟩:=ifB_eq he
          simp only [Option.some.injEq,Prod.mk.injEq] at he
          obtain ⟨rfl,rfl⟩:=he
          exact codeOk_range hcall hg hgv (hisF gg hfn) hng hlim hnb hlb hfr hc hl (fun e=>hst e) hj (setS_f hfit) rfl hent
        · cases he
    · cases he
  unfold evRange at e
  split at e
  · rename_i gg us vs hgv
    split at e
    · rename_i hfn
      split at e
      · rename_i hfit
        obtain ⟨f1,f2⟩:=and_t hfit
        split at e
        · rename_i r S2 hc
          have hS1:(⟨(s.S.h.set s.S.nb (some .dfr)).set (s.S.nb+1) (some (.loop .ready none s.t N ps asg body)),s.S.nb+2⟩:Sx).f=setB (setB s.S.f s.S.nb (some .dfr)) (s.S.nb+1) (some (.loop .ready none s.t N ps asg body)):=by
            rw [setS_f (nb':=0) f1,setS_f (nb':=s.S.nb) f2]
          refine fin hgv hfn (Nat.le_add_right _ 2) ⟨by omega,Nat.lt_succ_self _⟩ (fun b hb=>?_) hc e (fun ro ρ w a fn hw hf hF hR=>ent_outer hng hS1 rfl ro ρ w a fn hw hf hF hR)
          have hb:¬(s.S.nb≤b∧b < s.S.nb+2):=hb
          rw [hS1]
          have h1:¬b=s.S.nb+1:=by omega
          have h2:¬b=s.S.nb:=by omega
          simp only [setB,h1,h2,if_false]
        · cases e
      · cases e
    · rename_i rb hfn
      split at e
      · rename_i st pend t0 N0 ps0 asg0 body0 hfit hrb
        split at e
        · rename_i r S2 hc
          have hS1:(⟨s.S.h.set s.S.nb (some (.loop .ready none s.t N ps asg body)),s.S.nb+1⟩:Sx).f=setB s.S.f s.S.nb (some (.loop .ready none s.t N ps asg body)):=setS_f hfit
          refine fin hgv hfn (Nat.le_succ _) ⟨Nat.le_refl _,Nat.lt_succ_self _⟩ (fun b hb=>?_) hc e (fun ro ρ w a fn hw hf hF hR=>ent_inner hng hrb hS1 rfl ro ρ w a fn hw hf hF hR)
          have hb:¬(s.S.nb≤b∧b < s.S.nb+1):=hb
          rw [hS1]
          have h2:¬b=s.S.nb:=by omega
          simp only [setB,h2,if_false]
        · cases e
      · cases e
    · cases e
  · cases e
theorem evC_sound (hm:P.follows .mixedOrders=true) (htt:TtOk P tt) (hcall:CallOk P w0 ng call) (hisF:∀f,isFn f=true→Callable P f):∀(code:Code) (s:Fs) (ex:Ex) (s':Fs),ng≤s.S.nb→lim≤s.S.nb→evC tt ng isFn call lim N rnd fuel code s=some (ex,s')→CodeOk P w0 ng N lim rnd code s ex s'
  | .skip, s, ex, s', _, _, e => by
    simp only [evC,Option.some.injEq,Prod.mk.injEq] at e
    obtain ⟨rfl,rfl⟩:=e
    exact codeOk_same fun n ro a w Q h=>wpIn_skip h
  | .label l, s, ex, s', _, _, e => by
    simp only [evC,Option.some.injEq,Prod.mk.injEq] at e
    obtain ⟨rfl,rfl⟩:=e
    exact codeOk_same fun n ro a w Q h=>wpIn_label h
  | .region id ops draw, s, ex, s', hng, hlim, e => by
    simp only [evC] at e
    split at e
    · rename_i t' S' hr
      simp only [Option.some.injEq,Prod.mk.injEq] at e
      obtain ⟨rfl,rfl⟩:=e
      obtain ⟨h1,h2,h3⟩:=evReg_sound hm htt hcall hr hng hlim
      exact ⟨h1,h2,fun n ro ρ w a Q hw hf hF _ hQ=>h3 id n ro ρ w a Q hw hf hF.1 fun ρ' w' a' q1 q2 q3 q4=>hQ ρ' w' a' ⟨q1,by rw [q2];exact hF.2.ext q4.ext⟩ q3 q4⟩
    · cases e
  | .seq x y, s, ex, s', hng, hlim, e => by
    simp only [evC] at e
    split at e
    · rename_i s1 hx
      have h1:=evC_sound hm htt hcall hisF x s _ s1 hng hlim hx
      have:=h1.1
      exact codeOk_seq h1 (evC_sound hm htt hcall hisF y s1 ex s' (by omega) (by omega) e)
    · rename_i ex1 s1 hne hx
      simp only [Option.some.injEq,Prod.mk.injEq] at e
      obtain ⟨rfl,rfl⟩:=e
      exact codeOk_seq_out (fun h=>hne h) (evC_sound hm htt hcall hisF x s _ _ hng hlim hx)
    · cases e
  | .cond c x y, s, ex, s', hng, hlim, e => by
    simp only [evC] at e
    split at e
    · rename_i hc hv;exact codeOk_cond hc hv (evC_sound hm htt hcall hisF x s ex s' hng hlim e)
    · rename_i hc hv;exact codeOk_cond hc hv (evC_sound hm htt hcall hisF y s ex s' hng hlim e)
    · cases e
  | .block id x, s, ex, s', hng, hlim, e => by
    simp only [evC] at e
    split at e
    · rename_i i s1 hx
      have h1:=evC_sound hm htt hcall hisF x s _ s1 hng hlim hx
      split at e
      · rename_i hi
        simp only [Option.some.injEq,Prod.mk.injEq] at e
        obtain ⟨rfl,rfl⟩:=e
        have hi:=eq_t hi
        subst hi
        exact codeOk_block h1 (.inl ⟨rfl,rfl⟩)
      · rename_i hi
        simp only [Option.some.injEq,Prod.mk.injEq] at e
        obtain ⟨rfl,rfl⟩:=e
        refine codeOk_block h1 (.inr ⟨fun h=>?_,rfl⟩)
        cases h
        simp at hi
    · rename_i ex1 s1 hne hx
      simp only [Option.some.injEq,Prod.mk.injEq] at e
      obtain ⟨rfl,rfl⟩:=e
      exact codeOk_block (evC_sound hm htt hcall hisF x s _ _ hng hlim hx) (.inr ⟨fun h=>hne id h,rfl⟩)
    · cases e
  | .loop x, s, ex, s', hng, hlim, e => by
    simp only [evC] at e
    exact codeOk_loop (fun s ex s' h1 h2 h3=>evC_sound hm htt hcall hisF x s ex s' h1 h2 h3) hng hlim e
  | .rangeFunc g ps asg body, s, ex, s', hng, hlim, e => by
    simp only [evC] at e
    split at e
    · rename_i hg;exact evRange_sound hcall hisF hg hng hlim e
    · cases e
  | .exit id, s, ex, s', _, _, e => by
    simp only [evC,Option.some.injEq,Prod.mk.injEq] at e
    obtain ⟨rfl,rfl⟩:=e
    exact codeOk_same fun n ro a w Q h=>wpIn_exit h
  | .ret, s, ex, s', _, _, e => by
    simp only [evC,Option.some.injEq,Prod.mk.injEq] at e
    obtain ⟨rfl,rfl⟩:=e
    exact codeOk_same fun n ro a w Q h=>wpIn_ret h
  | .scope x, s, ex, s', hng, hlim, e => by
    simp only [evC] at e
    exact codeOk_scope (evC_sound hm htt hcall hisF x s ex s' hng hlim e)
  | .goto _,_,_,_,_,_,e=>by simp [evC] at e
  | .refuse _,_,_,_,_,_,e=>by simp [evC] at e
end
end Go.Vx
end
section
namespace Go.Vx
open Go.Ax
open Go.RowKit (Below)
def argsT:List VV→Nat→Tr VV→Option (Tr VV)
  | [],_,t=>some t
  | x :: r, i, t => match Tr.fits i with
    | true=>argsT r (i+1) (t.set i (some x))
    | false=>none
theorem argsT_get:∀{xs:List VV} {i:Nat} {t t':Tr VV},argsT xs i t=some t'→∀m,tvf t' m=if i≤m then (match xs[m - i]? with|some x=>x|none=>tvf t m) else tvf t m
  | [],i,t,t',e,m=>by cases e;simp
  | x :: r, i, t, t', e, m => by
    simp only [argsT] at e
    split at e
    · rename_i hf
      rw [argsT_get e m,tvf_set hf]
      by_cases h1:m=i
      · subst h1
        rw [if_neg (by omega)];simp
      · by_cases h2:i≤m
        · rw [if_pos (by omega),if_pos h2]
          have:m - i=(m - (i+1))+1:=by omega
          rw [this,List.getElem?_cons_succ]
          simp [h1]
        · rw [if_neg (by omega),if_neg h2];simp [h1]
    · cases e
theorem argsT_R {ρ:Nat→Ph} {xs:List VV} {vs:List Value} {t:Tr VV} {N:Nat} (e:argsT xs 0 .lf=some t) (h:Rs ρ xs vs) (hn:xs.length≤N):TR ρ (tvf t) N (vs.toArray++Array.replicate (N - vs.toArray.size) undef):=by
  have hl:=h.len
  refine ⟨by simp;omega,fun m=>?_⟩
  rw [argsT_get e m,if_pos (Nat.zero_le _),Nat.sub_zero]
  cases hx:xs[m]? with
  | none=>rw [show tvf Tr.lf m=VV.u by unfold tvf;rw [Tr.get_lf]];exact trivial
  | some x =>
    obtain ⟨v,h1,h2⟩:=h.get hx
    have:(vs.toArray++Array.replicate (N - vs.toArray.size) undef).getD m undef=v:=by
      have hm:m < vs.length:=(List.getElem?_eq_some_iff.1 h1).1
      rw [Array.getD_eq_getD_getElem?,Array.getElem?_append_left (by simpa using hm)]
      simp [h1]
    rw [this];exact h2
def putPs (N:Nat):List Tmp→List VV→Tr VV→Option (Tr VV)
  | [],[],t=>some t
  | p :: ps, x :: xs, t => match putT N t (some p) x with
    | some t'=>putPs N ps xs t'
    | none=>none
  | _,_,_=>none
theorem putPs_len {N:Nat}:∀{ps:List Tmp} {xs:List VV} {t t':Tr VV},putPs N ps xs t=some t'→xs.length=ps.length
  | [],[],_,_,_=>rfl
  | p :: ps, x :: xs, t, t', e => by
    simp only [putPs] at e
    split at e
    · simp [putPs_len e]
    · cases e
  | [],_ :: _,_,_,e=>by cases e
  | _ :: _,[],_,_,e=>by cases e
theorem putPs_R {ρ:Nat→Ph} {N:Nat}:∀{ps:List Tmp} {xs:List VV} {t t':Tr VV} {vs:List Value} {tmps:Array Value},putPs N ps xs t=some t'→TR ρ (tvf t) N tmps→Rs ρ xs vs→TR ρ (tvf t') N ((ps.zip vs).foldl (fun tmps (p:Tmp×Value)=>tmps.setIfInBounds p.1 p.2) tmps)
  | [],[],t,t',vs,tmps,e,h,_=>by cases e;exact h
  | p :: ps, x :: xs, t, t', vs, tmps, e, h, hv => by
    simp only [putPs] at e
    split at e
    · rename_i t1 h1
      obtain ⟨v,r,rfl,h2,h3⟩:=hv
      rw [List.zip_cons_cons,List.foldl_cons]
      exact putPs_R e (putT_R (a:=⟨tmps,[]⟩) h1 h h2) h3
    · cases e
  | [],_ :: _,_,_,_,_,e,_,_=>by cases e
  | _ :: _,[],_,_,_,_,e,_,_=>by cases e
section
variable {P:Program} {w0:World} {ng:Nat}
theorem wr_del {ρ:Nat→Ph} {h:Nat→Option Blk} {w w':World} (x:WR w0 ng ρ h w) {b k s:Nat} (hb:ρ b= .live k s) (hng:ng≤b) (hW:Wrote k w w') :
    WR w0 ng ρ (setB h b none) w'∧Eff ρ w ρ w' (fun c=>c=b):=by
  have hk0:w0.heap.size≤k:=by
    rcases x.own b k s hb with ⟨h1,_⟩|⟨_,h1⟩
    · omega
    · exact h1
  refine ⟨⟨fun c y hc=>?_,x.own,fun c k s hc=>Nat.lt_of_lt_of_le (x.lt c k s hc) hW.size,x.inj,⟨hW.os.trans x.below.os,hW.tape.trans x.below.tape,hW.output.trans x.below.output,Nat.le_trans x.below.size hW.size,fun j hj=>?_⟩,x.glob⟩,Ext.refl _,fun _ _=>rfl,fun j hj hm=>?_,fun _ _ _ h1 h2=>absurd h2 h1,hW.size,hW.os,hW.tape,hW.output⟩
  · by_cases e:c=b
    · subst e;simp [setB] at hc
    · simp only [setB,e,if_false] at hc
      obtain ⟨j,s',h1,h2⟩:=x.blk c y hc
      exact ⟨j,s',h1,h2.keep (Ext.refl _) (hW.block j (x.lt c j s' h1) fun ej=>e (x.inj c b k s' s (ej ▸ h1) hb))⟩
  · have:=x.below.size
    exact (hW.block j (by omega) (by omega)).trans (x.below.block j hj)
  · exact hW.block j hj fun ej=>hm b s rfl (ej ▸ hb)
end
def dropM (ng lim:Nat):List Nat→Sx→Option Sx
  | [],S=>some S
  | b :: r, S => match S.f b with
    | some .dfr => match Tr.fits b && Nat.ble ng b && Nat.ble lim b && Nat.ble (b + 1) S.nb with
      | true=>dropM ng lim r ⟨S.h.set b none,S.nb⟩
      | false=>none
    | _=>none
section
variable (tt:TypeId→Option TyI)
def resV (t:Tr VV) (h:Nat→Option Blk):List ResultVar→Option (List VV)
  | []=>some []
  | .tmp n :: r => match resV t h r with
    | some l=>some (tvf t n :: l)
    | none=>none
  | .cell p T :: r => match tvf t p, tt T with
    | .p b off, some ti => match loadC h b off ti.size with
      | some xs => match VV.mk ti.agg xs, resV t h r with
        | some y,some l=>some (y :: l)
        | _,_=>none
      | none=>none
    | _,_=>none
end
def oneV:List VV→VV
  | [x]=>x
  | l=>.tup l
section
variable {P:Program} {w0:World} {ng lim:Nat} {tt:TypeId→Option TyI}
theorem dropM_frame:∀{ms:List Nat} {S S':Sx},dropM ng lim ms S=some S'→S'.nb=S.nb∧∀b,¬(lim≤b∧b < S.nb)→S'.f b=S.f b
  | [],S,S',e=>by cases e;exact ⟨rfl,fun _ _=>rfl⟩
  | b :: r, S, S', e => by
    simp only [dropM] at e
    split at e
    · split at e
      · rename_i hb hc
        obtain ⟨hc,h4⟩:=and_t hc
        obtain ⟨hc,h3⟩:=and_t hc
        obtain ⟨h1,h2⟩:=and_t hc
        have h4:=le_t h4
        have h3:=le_t h3
        obtain ⟨a1,a2⟩:=dropM_frame e
        refine ⟨a1,fun c hc=>?_⟩
        have a2:=a2 c hc
        rw [a2,setS_f (nb':=S.nb) h1]
        have:¬c=b:=fun e=>hc (by subst e;exact ⟨h3,h4⟩)
        simp only [setB,this,if_false]
      · cases e
    · cases e
theorem leaves_marks {F:Fence} {n:Nat} {fn:Func} {tmps:Array Value} {R:Ending→World→Prop}:∀{ms:List Nat} {S S':Sx} {ρ:Nat→Ph} {w:World} {ds:List Deferred},dropM ng lim ms S=some S'→WR w0 ng ρ S.f w→DR ρ ms ds→
    (∀w',WR w0 ng ρ S'.f w'→Eff ρ w ρ w' (fun b=>lim≤b∧b < S.nb)→∃v,(results fn tmps).run P w'= .ok v w'∧R (.returned v) w')→LeavesInM F n P fn tmps R ds .returning w
  | [], S, S', ρ, w, ds, e, hw, hd, h => by
    cases e
    rw [show ds= [] from hd]
    exact h w hw (Eff.refl _ _ _)
  | b :: r, S, S', ρ, w, ds, e, hw, hd, h => by
    simp only [dropM] at e
    split at e
    · rename_i hb
      split at e
      · rename_i hc
        obtain ⟨hc,h4⟩:=and_t hc
        obtain ⟨hc,h3⟩:=and_t hc
        obtain ⟨h1,h2⟩:=and_t hc
        have h4:=le_t h4
        have h3:=le_t h3
        have h2:=le_t h2
        obtain ⟨d,rr,rfl,hd1,hd2⟩:=hd
        obtain ⟨k,s,hk,hB⟩:=hw.blk b _ hb
        rw [hk] at hd1
        dsimp only at hd1
        subst hd1
        have hB:w.heap[k]?=some (.deferred (some [])):=hB
        obtain ⟨q1,q2⟩:=wr_del hw hk h2 (wrote_put w k (.deferred none))
        refine ⟨by simp,.inl ⟨k,_,rfl,run_takeDeferred hB,?_⟩⟩
        refine leaves_marks e (by rw [setS_f (nb':=S.nb) h1];exact q1) hd2 fun w' a1 a2=>h w' a1 ?_
        exact (q2.mono fun c hc=>by have hc:c=b:=hc;subst hc;exact ⟨h3,h4⟩).trans a2
      · cases e
    · cases e
theorem run_resV (htt:TtOk P tt) {ρ:Nat→Ph} {h:Nat→Option Blk} {w:World} (hw:WR w0 ng ρ h w) {t:Tr VV} {N:Nat} {tmps:Array Value} (ht:TR ρ (tvf t) N tmps):∀(rs:List ResultVar) (l:List VV),resV tt t h rs=some l→
    ∃vs,(rs.mapM (resRun tmps)).run P w= .ok vs w∧Rs ρ l vs∧∀r∈rs,∃v,(resRun tmps r).run P w= .ok v w
  | [],l,e=>by cases e;exact ⟨[],rfl,rfl,by simp⟩
  | .tmp n :: r, l, e => by
    simp only [resV] at e
    split at e
    · rename_i l' hl
      cases e
      obtain ⟨vs,h1,h2,h3⟩:=run_resV htt hw ht r l' hl
      refine ⟨tmps.getD n undef :: vs,?_,⟨_,_,rfl,ht.2 n,h2⟩,fun x hx=>?_⟩
      · rw [List.mapM_cons]
        simp only [resRun,Sem.run_bind,Sem.run_pure,Result.andThen_ok,h1]
      · rcases List.mem_cons.1 hx with rfl|hx
        · exact ⟨_,rfl⟩
        · exact h3 x hx
    · cases e
  | .cell p T :: r, l, e => by
    simp only [resV] at e
    split at e
    · rename_i b off ti hp hti
      split at e
      · rename_i xs hxs
        split at e
        · rename_i y l' hy hl
          cases e
          obtain ⟨vs,h1,h2,h3⟩:=run_resV htt hw ht r l' hl
          obtain ⟨k,s,es,g1,g2,g3,g4,g5⟩:=loadC_range hw hxs
          obtain ⟨v,g6,g7⟩:=run_loadV (htt _ _ hti) g3 g2 g4 g5 hy
          have hv:=ht.2 p
          rw [hp] at hv
          obtain ⟨_,hv⟩:=hv
          rw [g1] at hv
          dsimp only at hv
          have hrun:(resRun tmps (.cell p T)).run P w= .ok v w:=by
            have:(Instr.loadAt T (.pointer (some ⟨k,off,none⟩)))=loadVar T ⟨k,off,none⟩:=rfl
            rw [this] at g6
            simp only [resRun,hv,asAddr]
            exact g6
          refine ⟨v :: vs,?_,⟨_,_,rfl,g7,h2⟩,fun x hx=>?_⟩
          · rw [List.mapM_cons]
            simp only [Sem.run_bind,hrun,Result.andThen_ok,h1,Sem.run_pure]
          · rcases List.mem_cons.1 hx with rfl|hx
            · exact ⟨_,hrun⟩
            · exact h3 x hx
        · cases e
      · cases e
    · cases e
theorem results_V {fn:Func} {ρ:Nat→Ph} {w:World} {tmps:Array Value} {l:List VV} {vs:List Value} (hl:Rs ρ l vs) (h1:(fn.results.toList.mapM (resRun tmps)).run P w= .ok vs w) (h2:∀r∈fn.results.toList,∃v,(resRun tmps r).run P w= .ok v w) :
    ∃v,(results fn tmps).run P w= .ok v w∧(oneV l).R ρ v:=by
  have hm:(results fn tmps).run P w= .ok (if h:vs.toArray.size=1 then vs.toArray[0] else .tuple vs.toArray) w:=by
    rw [results_eq]
    have:(fn.results.mapM (resRun tmps)).run P w= .ok vs.toArray w:=run_mapM_array h1 h2
    simp only [Sem.run_bind,this,Result.andThen_ok,Sem.run_pure]
  refine ⟨_,hm,?_⟩
  match l,vs,hl with
  | [],vs,h2=>obtain rfl:vs= []:=h2;exact ⟨[],rfl,rfl⟩
  | [x],vs,h2=>obtain ⟨v,_,rfl,h4,h5⟩:=h2;obtain rfl:=h5;exact h4
  | x :: y :: l, vs, h2 =>
    have:=h2.len
    simp at this
    have hne:¬vs.toArray.size=1:=by simp;omega
    rw [dif_neg hne]
    exact ⟨vs,rfl,h2⟩
theorem callsIn_ro {ro:Option Nat} {n:Nat} {f:FuncId} {args:Array Value} {w:World} {R:Ending→World→Prop} (h:CallsIn (WF none) n P f args w R):CallsIn (WF ro) n P f args w R:=by
  cases ro with
  | none=>exact h
  | some l=>exact CallsIn.inRound l h
def CallOne (P:Program) (w0:World) (ng:Nat) (tg:Tg) (xs:List VV) (lim:Nat) (S:Sx) (r:VV) (S':Sx):Prop:=S.nb≤S'.nb∧(∀b,¬(lim≤b∧b < S'.nb)→S'.f b=S.f b)∧
    ∀(n:Nat) (ro:Option Nat) (ρ:Nat→Ph) (w:World) (vs:List Value) (m:Sem Next),WR w0 ng ρ S.f w→(∀b,S.nb≤b→b < S'.nb→ρ b= .fresh)→Rs ρ xs vs→TgR ρ vs m tg→
      ∀(o:Oper) (a:Act) (next:Act→World→Prop) (Q:Exit→Act→World→Prop),(∀v w',Ret w0 ng ρ w lim S' r v w'→next (a.put o.dst v) w')→o.uponIn (WF ro) n P a next Q (m.run P w)
theorem fun_ok (htt:TtOk P tt) {g:FuncId} {fn:Func} {c:Code} (hf:P.funcs[g]?=some fn) (hb:fn.body=some c) (hcal:Callable P g) {xs:List VV} {S:Sx} {t0:Tr VV} {ex:Ex} {s':Fs} {S2:Sx} {l:List VV} (ha:argsT xs 0 .lf=some t0) (hn:xs.length≤fn.ntmps)
    (hC:CodeOk P w0 ng fn.ntmps lim none c ⟨t0,[],S⟩ ex s') (hex:ex= .norm∨ex= .ret) (hd:dropM ng lim s'.ms s'.S=some S2) (hr:resV tt s'.t S2.f fn.results.toList=some l):CallOne P w0 ng (.f g) xs lim S (oneV l) S2:=by
  obtain ⟨c1,c2,c3⟩:=hC
  obtain ⟨d1,d2⟩:=dropM_frame hd
  have c1:S.nb≤s'.S.nb:=c1
  refine ⟨by omega,fun b hb=>(d2 b (by omega)).trans (c2 b (by omega)),fun n ro ρ w vs m hw hfr hx hm o a next Q hK=>?_⟩
  have hm:m=callFunc g vs.toArray:=hm
  subst hm
  rw [run_enter hcal]
  refine ⟨fun h=>by simp [WF] at h,?_⟩
  have hpost:∀e a' w',(∃ρ',FR ρ' fn.ntmps s' a'∧WR w0 ng ρ' s'.S.f w'∧Eff ρ w ρ' w' (fun b=>lim≤b∧b < s'.S.nb))→(e= .normal∨e= .ret)→
      bodyPostM (WF none) (n - 1) P fn (fun| .returned v,w''=>next (a.put o.dst v) w''| .panicked chain,w''=>Q (.panic chain) a w''| .outgrown,_=>LetsOut Q) e a' w':=by
    rintro e a' w' ⟨ρ',q1,q2,q3⟩ he
    have:LeavesInM (WF none) (n - 1) P fn a'.tmps (fun| .returned v,w''=>next (a.put o.dst v) w''| .panicked chain,w''=>Q (.panic chain) a w''| .outgrown,_=>LetsOut Q) a'.defers .returning w':=by
      refine leaves_marks hd q2 q1.2 fun w2 p1 p2=>?_
      obtain ⟨us,u1,u2,u3⟩:=run_resV htt p1 q1.1 _ _ hr
      obtain ⟨v,v1,v2⟩:=results_V u2 u1 u3
      refine ⟨v,v1,hK v w2 ⟨ρ',v2,p1,?_⟩⟩
      refine (q3.mono fun b hb=>?_).trans (p2.mono fun b hb=>?_)
      · exact ⟨hb.1,by omega⟩
      · exact ⟨hb.1,by omega⟩
    rcases he with rfl|rfl <;> exact this
  refine callsIn_ro (callsIn_of_wp_marks hf hb trivial ?_ rfl)
  refine c3 (n - 1) none ρ w _ _ hw (fun b h h'=>hfr b h (by omega)) ⟨argsT_R ha hx hn,rfl⟩ rfl fun ρ' w' a' q1 q2 q3=>?_
  refine hpost _ a' w' ⟨ρ',q1,q2,q3⟩ ?_
  rcases hex with rfl|rfl
  · exact .inl rfl
  · exact .inr rfl
end
end Go.Vx
end
section
namespace Go.Vx
open Go.Ax
open Go.RowKit (Below)
def jumpOf:Ex→Option Code
  | .norm=>none
  | .ret=>some .ret
  | .exit id=>some (.exit id)
def stOf:Ex→LoopState
  | .norm=>.ready
  | _=>.done
def isNorm:Ex→Bool
  | .norm=>true
  | _=>false
section
variable {P:Program} {w0:World} {ng lim:Nat} {tt:TypeId→Option TyI}
theorem round_ok {b:Nat} {xs:List VV} {S S2 S4:Sx} {pend pend1 pend3:Option Code} {t0 t1 t1' t3:Tr VV} {N0 N1 N3:Nat} {ps ps1 ps3:Array Tmp} {asg body asg1 body1 asg3 body3:Code} {s1 s3:Fs} {st3:LoopState} {ex:Ex}
    (hb:S.f b=some (.loop .ready pend t0 N0 ps asg body)) (hgb:ng≤b) (hlb:lim≤b) (hbn:b < S.nb) (hp:putPs N0 ps.toList xs t0=some t1)
    (hA:CodeOk P w0 ng N0 lim (some b) asg ⟨t1,[],S⟩ .norm s1) (h1:s1.S.f b=some (.loop .ready pend1 t1' N1 ps1 asg1 body1)) (hS2:S2.f=setB s1.S.f b (some (.loop .busy pend1 t1' N1 ps1 asg1 body1))) (hS2n:S2.nb=s1.S.nb)
    (hB:CodeOk P w0 ng N0 lim (some b) body ⟨s1.t,s1.ms,S2⟩ ex s3) (h3:s3.S.f b=some (.loop st3 pend3 t3 N3 ps3 asg3 body3)) (hS4:S4.f=setB s3.S.f b (some (.loop (stOf ex) (jumpOf ex) t3 N3 ps3 asg3 body3))) (hS4n:S4.nb=s3.S.nb) :
    CallOne P w0 ng (.y b) xs lim S (.s (.bool (isNorm ex))) S4:=by
  obtain ⟨a1,a2,a3⟩:=hA
  obtain ⟨b1,b2,b3⟩:=hB
  have a1:S.nb≤s1.S.nb:=a1
  have b1:S2.nb≤s3.S.nb:=b1
  refine ⟨by omega,fun c hc=>?_,fun n ro ρ w vs m hw hfr hx hm o a next Q hK=>?_⟩
  · have hne:c≠b:=fun e=>hc (by subst e;omega)
    rw [hS4]
    simp only [setB,hne,if_false]
    have h4:=b2 c (by omega)
    have h4:s3.S.f c=S2.f c:=h4
    have h5:=a2 c (by omega)
    have h5:s1.S.f c=S.f c:=h5
    rw [h4,hS2]
    simp only [setB,hne,if_false]
    exact h5
  · obtain ⟨k,s,hk,rfl⟩:=hm
    obtain ⟨k',s',hk',rr,r1,r2,r3,r4,r5,r6,r7⟩:=hw.blk b _ hb
    rw [hk] at hk'
    cases hk'
    have hlen:vs.toArray.size=rr.params.size:=by
      have:=putPs_len hp
      rw [r5,List.size_toArray,hx.len,this];simp
    rw [run_yield r1 hlen]
    refine ⟨fun h=>by simp [WF] at h,roundIn_of_wpIn trivial ?_⟩
    have htm:((rr.params.zip vs.toArray).foldl (fun tmps (x:Tmp×Value)=>tmps.setIfInBounds x.1 x.2) rr.tmps)=(ps.toList.zip vs).foldl (fun tmps (p:Tmp×Value)=>tmps.setIfInBounds p.1 p.2) rr.tmps:=by
      rw [r5,←Array.foldl_toList,Array.toList_zip]
    have hT:=putPs_R hp r4 hx
    rw [←htm] at hT
    rw [r6,r7]
    refine a3 (n - 1) (some k) ρ w _ _ hw (fun c h h'=>hfr c h (by omega)) ⟨hT,rfl⟩ (by simp only [RoR,hk]) fun ρ1 w1 act1 q1 q2 q3=>?_
    obtain ⟨k1,s1',hk1,r',u1,u2,u3,u4,u5,u6,u7⟩:=q2.blk b _ h1
    obtain ⟨rfl,_⟩:=ext_live q3.ext hk hk1
    have hbeg:=run_beginRound (P:=P) u1 u2
    have hbh:(w1.putObj k1 (.loop { r' with state:=.busy })).heap[k1]?=some (.loop { r' with state:=.busy }):=World.putObj_heap_same (q2.lt b k1 _ hk1)
    obtain ⟨p1,p2⟩:=wr_set q2 hk1 hgb (wrote_put w1 k1 (.loop { r' with state:=.busy })) (z:=.loop .busy pend1 t1' N1 ps1 asg1 body1) ⟨_,hbh,rfl,u3,u4,u5,u6,u7⟩
    refine ⟨_,hbeg,?_⟩
    have e12:Eff ρ w ρ1 (w1.putObj k1 (.loop { r' with state:=.busy })) (fun c=>lim≤c∧c < s1.S.nb):=q3.trans (p2.mono fun c hc=>by have hc:c=b:=hc;subst hc;exact ⟨hlb,by omega⟩)
    refine b3 (n - 1) (some k1) ρ1 _ act1 _ (by show WR w0 ng ρ1 S2.f _;rw [hS2];exact p1) (fun c h h'=>?_) q1 (by simp only [RoR,hk1]) fun ρ3 w3 act3 v1 v2 v3=>?_
    · have h:S2.nb≤c:=h
      have h':c < s3.S.nb:=h'
      rw [e12.same c (by omega)]
      exact hfr c (by omega) (by omega)
    · obtain ⟨k3,s3',hk3,r3',x1,x2,x3,x4,x5,x6,x7⟩:=v2.blk b _ h3
      obtain ⟨rfl,_⟩:=ext_live v3.ext hk1 hk3
      have hput:∀st pd,(w3.putObj k3 (.loop { r3' with state:=st,pending:=pd })).heap[k3]?=some (.loop { r3' with state:=st,pending:=pd }):=fun st pd=>World.putObj_heap_same (v2.lt b k3 _ hk3)
      have fin:∀(jump:Option Code),jump=jumpOf ex→(if jump.isNone then LoopState.ready else .done)=stOf ex→jump.isNone=isNorm ex→∃v w',(Instr.endRound k3 jump).run P w3= .ok v w'∧next (a.put o.dst v) w':=by
        intro jump hj hs hi
        refine ⟨_,_,run_endRound jump x1,hK _ _ ⟨ρ3,⟨by rw [hi],rfl⟩,?_,?_⟩⟩
        · rw [hS4]
          exact (wr_set v2 hk3 hgb (wrote_put w3 k3 _) (z:=.loop (stOf ex) (jumpOf ex) t3 N3 ps3 asg3 body3) ⟨_,hput _ _,hs,hj,x4,x5,x6,x7⟩).1
        · refine (e12.mono fun c hc=>⟨hc.1,by omega⟩).trans ((v3.mono fun c hc=>⟨hc.1,by rw [hS4n];exact hc.2⟩).trans ((wr_set v2 hk3 hgb (wrote_put w3 k3 _) (z:=.loop (stOf ex) (jumpOf ex) t3 N3 ps3 asg3 body3) ⟨_,hput _ _,hs,hj,x4,x5,x6,x7⟩).2.mono fun c hc=>?_))
          have hc:c=b:=hc
          subst hc;omega
      cases ex with
      | norm=>exact fin none rfl rfl rfl
      | ret=>exact fin (some .ret) rfl rfl rfl
      | exit id=>exact fin (some (.exit id)) rfl rfl rfl
end
section
variable (tt:TypeId→Option TyI) (ng:Nat) (fns:FuncId→Option Func) (ext:FuncId→List VV→Option VV) (fuel:Nat)
def isFn (f:FuncId):Bool:=match fns f with
  | some fn=>fn.body.isSome
  | none=>false
def evFun (call:CallF) (fn:Func) (c:Code) (xs:List VV) (lim:Nat) (S:Sx):Option (VV×Sx):=match argsT xs 0 .lf,Nat.ble xs.length fn.ntmps with
  | some t0, true => match evC tt ng (isFn fns) call lim fn.ntmps none fuel c ⟨t0, [], S⟩ with
    | some (.exit _,_)=>none
    | some (_, s') => match dropM ng lim s'.ms s'.S with
      | some S2 => match resV tt s'.t S2.f fn.results.toList with
        | some l=>some (oneV l,S2)
        | none=>none
      | none=>none
    | none=>none
  | _,_=>none
def evRound (call:CallF) (b:Nat) (xs:List VV) (lim:Nat) (S:Sx):Option (VV×Sx):=match S.f b with
  | some (.loop .ready _ t0 N0 ps asg body) => match putPs N0 ps.toList xs t0, Tr.fits b && Nat.ble ng b && Nat.ble lim b && Nat.ble (b + 1) S.nb with
    | some t1, true => match evC tt ng (isFn fns) call lim N0 (some b) fuel asg ⟨t1, [], S⟩ with
      | some (.norm, s1) => match s1.S.f b with
        | some (.loop .ready pend1 t1' N1 ps1 asg1 body1) => match evC tt ng (isFn fns) call lim N0 (some b) fuel body ⟨s1.t, s1.ms, ⟨s1.S.h.set b (some (.loop .busy pend1 t1' N1 ps1 asg1 body1)), s1.S.nb⟩⟩ with
          | some (ex, s3) => match s3.S.f b with
            | some (.loop _ _ t3 N3 ps3 asg3 body3)=>some (.s (.bool (isNorm ex)),⟨s3.S.h.set b (some (.loop (stOf ex) (jumpOf ex) t3 N3 ps3 asg3 body3)),s3.S.nb⟩)
            | _=>none
          | none=>none
        | _=>none
      | _=>none
    | _,_=>none
  | _=>none
def evCall:Nat→CallF
  | 0=>fun _ _ _ _=>none
  | k + 1 => fun tg xs lim S => match tg with
    | .f g => match fns g with
      | some fn => match fn.body with
        | some c=>evFun tt ng fns fuel (evCall k) fn c xs lim S
        | none => match ext g xs with
          | some v=>some (v,S)
          | none=>none
      | none=>none
    | .y b=>evRound tt ng fns fuel (evCall k) b xs lim S
end
structure FnsOk (P:Program) (fns:FuncId→Option Func) (ext:FuncId→List VV→Option VV):Prop where
  fn:∀f fn,fns f=some fn→P.funcs[f]?=some fn
  name:∀f fn,fns f=some fn→fn.body.isSome=true→(fn.name == "runtime.NumGoroutine")=false
  ext:∀f fn xs v,fns f=some fn→fn.body=none→ext f xs=some v→∀(ρ:Nat→Ph) (w:World) (vs:List Value),Rs ρ xs vs→∃u,(callFunc f vs.toArray).run P w= .ok (.value u) w∧v.R ρ u
section
variable {P:Program} {w0:World} {ng:Nat} {tt:TypeId→Option TyI} {fns:FuncId→Option Func} {ext:FuncId→List VV→Option VV} {fuel:Nat}
theorem isFn_callable (hF:FnsOk P fns ext) (f:FuncId) (h:isFn fns f=true):Callable P f:=by
  unfold isFn at h
  split at h
  · rename_i fn hf
    exact ⟨fn,hF.fn f fn hf,hF.name f fn hf h,by cases hb:fn.body <;> simp_all⟩
  · cases h
theorem evCall_ok (hm:P.follows .mixedOrders=true) (htt:TtOk P tt) (hF:FnsOk P fns ext):∀k,CallOk P w0 ng (evCall tt ng fns ext fuel k)
  | 0=>fun _ _ _ _ _ _ e=>by cases e
  | k + 1 => by
    have ih:=evCall_ok hm htt hF k
    intro tg xs lim S r S' e hng hlim
    show CallOne P w0 ng tg xs lim S r S'
    simp only [evCall] at e
    split at e
    · rename_i g
      split at e
      · rename_i fn hfn
        split at e
        · rename_i c hc
          unfold evFun at e
          split at e
          · rename_i t0 ha hn
            split at e
            · cases e
            · rename_i ex s' hne hev
              split at e
              · rename_i S2 hd
                split at e
                · rename_i l hr
                  simp only [Option.some.injEq,Prod.mk.injEq] at e
                  obtain ⟨rfl,rfl⟩:=e
                  have hcal:Callable P g:=isFn_callable hF g (by simp [isFn,hfn,hc])
                  refine fun_ok htt (hF.fn g fn hfn) hc hcal ha (le_t hn) (evC_sound hm htt ih (isFn_callable hF) c _ ex s' hng hlim hev) ?_ hd hr
                  cases ex with
                  | norm=>exact .inl rfl
                  | ret=>exact .inr rfl
                  | exit id=>exact absurd rfl (hne id)
                · cases e
              · cases e
            · cases e
          · cases e
        · rename_i hc
          split at e
          · rename_i v hx
            simp only [Option.some.injEq,Prod.mk.injEq] at e
            obtain ⟨rfl,rfl⟩:=e
            refine ⟨Nat.le_refl _,fun _ _=>rfl,fun n ro ρ w vs m hw hfr hvs hm' o a next Q hK=>?_⟩
            have hm':m=callFunc g vs.toArray:=hm'
            subst hm'
            obtain ⟨u,h1,h2⟩:=hF.ext g fn xs v hfn hc hx ρ w vs hvs
            rw [h1]
            exact hK u w ⟨ρ,h2,hw,Eff.refl _ _ _⟩
          · cases e
      · cases e
    · rename_i b
      unfold evRound at e
      split at e
      · rename_i pend t0 N0 ps asg body hb
        split at e
        · rename_i t1 hp hc
          obtain ⟨hc,c4⟩:=and_t hc
          obtain ⟨hc,c3⟩:=and_t hc
          obtain ⟨c1,c2⟩:=and_t hc
          have c4:=le_t c4
          split at e
          · rename_i s1 hA
            have kA:=evC_sound hm htt ih (isFn_callable hF) asg _ _ _ hng hlim hA
            have n1:S.nb≤s1.S.nb:=kA.1
            split at e
            · rename_i pend1 t1' N1 ps1 asg1 body1 h1
              split at e
              · rename_i ex s3 hB
                have kB:=evC_sound hm htt ih (isFn_callable hF) body ⟨s1.t,s1.ms,⟨s1.S.h.set b (some (.loop .busy pend1 t1' N1 ps1 asg1 body1)),s1.S.nb⟩⟩ ex s3 (Nat.le_trans hng n1) (Nat.le_trans hlim n1) hB
                split at e
                · rename_i st3 pend3 t3 N3 ps3 asg3 body3 h3
                  simp only [Option.some.injEq,Prod.mk.injEq] at e
                  obtain ⟨rfl,rfl⟩:=e
                  exact round_ok hb (le_t c2) (le_t c3) c4 hp kA h1 (setS_f c1) rfl kB h3 (setS_f c1) rfl
                · cases e
              · cases e
            · cases e
          · cases e
        · cases e
      · cases e
theorem closed_call (hm:P.follows .mixedOrders=true) (htt:TtOk P tt) (hF:FnsOk P fns ext) {G:World→Prop} {h0:Tr Blk} (hG:∀w,G w→∃ρ,WR w ng ρ (⟨h0,ng⟩:Sx).f w∧∀b,ng≤b→ρ b= .fresh) {f:FuncId} (hcal:Callable P f) {k:Nat} {v:Value} {S':Sx}
    (he:evCall tt ng fns ext fuel k (.f f) [] ng ⟨h0,ng⟩=some (.s v,S')) (w:World) (hg:G w):Calls P f #[] w fun e w'=>e= .returned v∧Below w.heap.size w w':=by
  obtain ⟨ρ,h1,h2⟩:=hG w hg
  obtain ⟨_,_,h3⟩:=evCall_ok (w0:=w) (fuel:=fuel) hm htt hF k _ _ _ _ _ _ he (Nat.le_refl _) (Nat.le_refl _)
  have:=h3 1 none ρ w [] _ h1 (fun b hb _=>h2 b hb) rfl (show TgR ρ [] (callFunc f #[]) (.f f) from rfl) ⟨some 0,.move (.const undef),0,"",#[],none⟩ ⟨#[undef],[]⟩ (fun a' w'=>a'.tmps.getD 0 undef=v∧Below w.heap.size w w') (fun _ _ _=>False) (fun v' w' ⟨ρ',q1,q2,q3⟩=>⟨by simp [Act.put,q1.1],q2.below⟩)
  rw [run_enter hcal] at this
  refine Calls.mono (callsIn_wide.1 this.2) fun e w' h=>?_
  cases e with
  | returned v' =>
    obtain ⟨h1,h2⟩:=h
    have h1:v'=v:=by simpa [Act.put] using h1
    exact ⟨by rw [h1],h2⟩
  | panicked ch=>exact h.elim
  | outgrown=>obtain ⟨_,_,h⟩:=h;exact h.elim
-- axioms of closed_call
end
end Go.Vx
end
section
namespace Go.Vx
open Go.Ax
inductive KT (α:Type) where
  | nil
  | node (l:KT α) (k:Nat) (v:α) (r:KT α)
def KT.find {α:Type}:KT α→Nat→Option α
  | .nil,_=>none
  | .node l k v r, n => match Nat.beq n k with
    | true=>some v
    | false => match Nat.ble n k with
      | true=>l.find n
      | false=>r.find n
def KT.All {α:Type} (p:Nat→α→Prop):KT α→Prop
  | .nil=>True
  | .node l k v r=>l.All p∧p k v∧r.All p
def noExt (_:FuncId) (_:List VV):Option VV:=none
def saysYes (r:Option (VV×Sx)):Bool:=match r with
  | some (.s (.bool b),_)=>b
  | _=>false
theorem saysYes_eq {r:Option (VV×Sx)} (h:saysYes r=true):∃S,r=some (.s (.bool true),S):=by
  unfold saysYes at h
  split at h
  · subst h;exact ⟨_,rfl⟩
  · cases h
end Go.Vx
end
