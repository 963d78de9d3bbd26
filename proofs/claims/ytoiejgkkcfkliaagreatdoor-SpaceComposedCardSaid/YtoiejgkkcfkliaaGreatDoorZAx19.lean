/- Lemmas on the program and its library: part ZAx19. -/
import Derived.RangeFuncLeaves
import Derived.RangeFuncCalls
import Derived.Test.YtoiejgkkcfkliaaGreatDoorZTxt2
set_option linter.unusedVariables false
set_option linter.unusedSimpArgs false
section
namespace Go.Ax
open Go.RowKit (Below)
def WpW (c:Ctx) (code:Code) (R:Exit→Act→World→Prop) (st:St):Prop:=∀E a w,SR c st E a w→code.wp c.P R a w
theorem b8g {c:Ctx} {x y:Code} {R:Exit→Act→World→Prop} {st:St} (h:Wp c x (Nxt (WpW c y R) (fun e st'=>∀E a w,SR c st' E a w→R e a w)) st):WpW c (.seq x y) R st:=by
  intro E a w s
  refine wp_seq (wp_mono (h E a w s) ?_)
  rintro e a w ⟨st,E,s,q⟩
  cases e with
  | normal=>exact q E a w s
  | _=>exact q E a w s
theorem d3v {c:Ctx} {x y:Code} {R:Exit→Act→World→Prop} {st:St} (h:WpW c x (Exit.then (fun a w=>y.wp c.P R a w) R) st):WpW c (.seq x y) R st:=
  fun E a w s=>wp_seq (h E a w s)
theorem c7v {c:Ctx} {x:Code} {R:Exit→Act→World→Prop} {st st':St} (h:a1r c.nb0 st st') (h2:WpW c x R st'):WpW c x R st:=by
  exact fun E a w s=>h2 _ a w (h.sr s)
theorem c81 {P:Program} {G:World→Prop} {tt:TypeId→Option TyI} (htt:a2e P tt) {f:FuncId} {fn:Func} {code:Code} (hf:P.funcs[f]?=some fn) (hb:fn.body=some code) (hname:(fn.name == "runtime.NumGoroutine")=false)
    (hG:∀w w',Below w.heap.size w w'→G w→G w') {args:List AV} {r:AV} (hcl:clV 0 args∧r.cl 0) (hn:args.length≤fn.ntmps)
    (h:∀w0 E0,a0d ⟨P,tt,G,fn.ntmps,w0,E0,0,fun _=>False,0,[]⟩→a3q E0 w0→G w0→WpW ⟨P,tt,G,fn.ntmps,w0,E0,0,fun _=>False,0,[]⟩ code (bodyPostM Fence.wide 5 P fn fun e w'=>∃v,e= .returned v∧RV E0 w' r v∧Below w0.heap.size w0 w') ⟨a8a args,a67,0⟩):Pure P G f args r:=by
  refine ⟨⟨fn,hf,hname,by simp [hb]⟩,hcl,fun E w vs hE hok hg _ hvs=>?_⟩
  have hlen:=a9u hvs
  have hctx:a0d ⟨P,tt,G,fn.ntmps,w,E,0,fun _=>False,0,[]⟩:=⟨htt,fun w' hw=>hG w w' hw.plain hg,fun b hb=>hE b hb,Nat.le_refl _,hok.m⟩
  refine callsIn_wide.1 (callsIn_of_wp_marks (n:=5) hf hb trivial (wpIn_wide.2 (h w E hctx hok hg E _ w ⟨?_,rfl,fun n=>?_,(fun b bx hb=>(by cases hb)),hok,a4i.refl _,(fun b k _ hbk=>?_),(fun b hb=>absurd hb (Nat.not_lt_zero _)),rfl,fun b hb=>hE b hb⟩)))
  · simp;omega
  · have get:∀(xs:List AV) (us:List Value),RVs E w xs us→∀n,RV E w (xs.getD n .u) ((us++List.replicate (fn.ntmps - us.length) undef).getD n undef):=by
      intro xs us h
      have gen:∀(xs:List AV) (us:List Value) (tl:List Value),RVs E w xs us→∀n,RV E w (xs.getD n .u) ((us++tl).getD n undef):=by
        intro xs
        induction xs with
        | nil=>intro us tl h n;simp only [List.getD_nil];trivial
        | cons x xs ih =>
          intro us tl h n
          obtain ⟨u,us',rfl,h4,h5⟩:=h
          cases n with
          | zero=>exact h4
          | succ n=>exact ih us' tl h5 n
      exact gen xs us _ h
    have:=get args vs hvs n
    have e:(vs.toArray++Array.replicate (fn.ntmps - vs.toArray.size) undef).getD n undef=(vs++List.replicate (fn.ntmps - vs.length) undef).getD n undef:=by
      rw [Array.getD_eq_getD_getElem?,List.getD_eq_getElem?_getD,←Array.getElem?_toList]
      simp
    show RV E w (a8a args n) _
    rw [b8n,e];exact this
  · have hbk:E.ρ b=some k:=hbk
    rw [hE b (Nat.zero_le _)] at hbk;cases hbk
end Go.Ax
end
section
namespace Go.Ax
open Go.RowKit (Below)
variable {P:Program} {tt:TypeId→Option TyI} {G:World→Prop} {N:Nat} {w0:World} {E0:u6}
theorem SR.later {st:St} (hc:a0d ⟨P,tt,G,N,w0,E0,0,fun _=>False,0,[]⟩) {E:u6} {a:Act} {w W:World} (s:SR ⟨P,tt,G,N,w0,E0,0,fun _=>False,0,[]⟩ st E a w) (hB:Below w.heap.size w W) (d:List Deferred) :
    a0d ⟨P,tt,G,N,W,E0,0,fun k=>∃b,E.ρ b=some k,0,d⟩∧SR ⟨P,tt,G,N,W,E0,0,fun k=>∃b,E.ρ b=some k,0,d⟩ st E { a with defers:=d } W:=by
  have hs:w0.heap.size≤w.heap.size:=s.below.size
  have hs2:=hB.size
  have hown:∀b k,E.ρ b=some k→w0.heap.size≤k:=fun b k hb=>(s.own b k (Nat.zero_le _) hb).elim id (fun h=>h.1.elim)
  refine ⟨⟨hc.tt,fun w' hw=>hc.g w' ⟨hw.os.trans (hB.os.trans s.below.os),hw.tape.trans (hB.tape.trans s.below.tape),hw.output.trans (hB.output.trans s.below.output),Nat.le_trans hs (Nat.le_trans hs2 hw.size),fun k hk _=>?_⟩,hc.e0,hc.ns,fun k hk=>?_⟩,⟨s.size,rfl,fun n=>(a3f hB).rv (s.slots n),fun b bx hbx=>(s.boxes b bx hbx).keeps (a3f hB) fun k hk=>hB.block k (s.env.r _ _ hk),s.env.below hs2,a4i.refl W,fun b k _ hb=>.inr ⟨⟨b,hb⟩,fun hm=>?_⟩,s.low,s.m,s.free⟩⟩
  · have hk:k < w0.heap.size:=hk
    refine (hw.block k (Nat.lt_of_lt_of_le hk (Nat.le_trans hs hs2)) (fun ⟨b,hb⟩=>?_)).trans ((hB.block k (Nat.lt_of_lt_of_le hk hs)).trans (s.below.block k hk id))
    have:=hown b k hb
    omega
  · exact Nat.lt_of_lt_of_le (hc.m k hk) (Nat.le_trans hs hs2)
  · have h1:=hown b k hb
    have h2:k < w0.heap.size:=hc.m k hm
    omega
theorem SR.later_end {st st':St} {E E':u6} {a a':Act} {w W W':World} {d:List Deferred} (s:SR ⟨P,tt,G,N,w0,E0,0,fun _=>False,0,[]⟩ st E a w) (hB:Below w.heap.size w W) (s':SR ⟨P,tt,G,N,W,E0,0,fun k=>∃b,E.ρ b=some k,0,d⟩ st' E' a' W') {t b:Nat} {g:Nat→List i7} {r:Int} {D:Nat} {ob:Obj}
    (ht:st'.t t= .one (.ptr b 1 0 0)) (hbox:st'.h b=some ⟨1,1,g,false⟩) (hg:g 0= [.v (.int .i64 r)]) (hD:w.heap.size≤D) (hob:W.heap[D]?=some ob) :
    a'.defers=d∧(∃k cs T,a'.tmps.getD t undef= .pointer (some ⟨k,0,none⟩)∧W'.heap[k]?=some (.cells cs T (0,0))∧cs[0]?=some (.int .i64 r))∧W'.heap[D]?=some ob∧Below w0.heap.size w0 W':=by
  have hs:w0.heap.size≤w.heap.size:=s.below.size
  have hs2:=hB.size
  have hown:∀b k,E.ρ b=some k→w0.heap.size≤k:=fun b k hb=>(s.own b k (Nat.zero_le _) hb).elim id (fun h=>h.1.elim)
  refine ⟨s'.defers,?_,?_,?_⟩
  · have h:=s'.slots t
    rw [ht] at h
    obtain ⟨_,k,hk,h⟩:=h
    obtain ⟨h0,_⟩|⟨k',cs,T,h1,h2,h3,h4⟩:=s'.boxes b _ hbox
    · cases h0
    rw [hk] at h1
    cases h1
    obtain ⟨es,h5,h6,h7⟩:=h4 0 Nat.zero_lt_one
    dsimp only at h6
    rw [hg] at h6
    simp only [List.cons.injEq,and_true] at h
    refine ⟨k,cs,T,h,h2,?_⟩
    obtain ⟨xs,ys,rfl,⟨hx,_⟩,hy⟩:=h6
    obtain rfl:ys= []:=hy
    obtain rfl:xs= [.int .i64 r]:=hx
    have:=h7 0 (.int .i64 r) rfl
    rwa [Nat.zero_mul] at this
  · have hlt:D < W.heap.size:=(Array.getElem?_eq_some_iff.1 hob).1
    rw [s'.below.block D hlt (fun ⟨b,hb⟩=>?_)]
    · exact hob
    · have:=s.env.r b D hb
      omega
  · have hb':=s'.below
    refine ⟨hb'.os.trans (hB.os.trans s.below.os),hb'.tape.trans (hB.tape.trans s.below.tape),hb'.output.trans (hB.output.trans s.below.output),Nat.le_trans hs (Nat.le_trans hs2 hb'.size),fun k hk=>?_⟩
    refine (hb'.block k (Nat.lt_of_lt_of_le hk (Nat.le_trans hs hs2)) (fun ⟨b,hb⟩=>?_)).trans ((hB.block k (Nat.lt_of_lt_of_le hk hs)).trans (s.below.block k hk id))
    have:=hown b k hb
    omega
end Go.Ax
end
