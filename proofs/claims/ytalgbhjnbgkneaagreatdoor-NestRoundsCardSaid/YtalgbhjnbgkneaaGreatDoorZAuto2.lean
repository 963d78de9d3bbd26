/- Lemmas on the program and its library, part Auto2. -/
import Derived.Test.YtalgbhjnbgkneaaGreatDoorZBase
set_option linter.unusedVariables false
set_option linter.unusedSimpArgs false
section
namespace Go.Proofs
open Go.Ax
class Stp (g:Prop) (p:outParam Prop):Prop where h:p→g
theorem zgo {g p:Prop} [s:Stp g p] (h:p):g:=s.h h
class St2 (g:Prop) (p q:outParam Prop):Prop where h:p→q→g
theorem zg2 {g p q:Prop} [s:St2 g p q] (h:p) (k:q):g:=s.h h k
class St3 (g:Prop) (a p A q B:outParam Prop):Prop where h:a→(p→A)→(q→B)→g
theorem zg3 {g a p A q B:Prop} [s:St3 g a p A q B] (x:a) (h:p→A) (k:q→B):g:=s.h x h k
class St4 (g:Prop) (p A q B:outParam Prop):Prop where h:(p→A)→(q→B)→g
theorem zg4 {g p A q B:Prop} [s:St4 g p A q B] (h:p→A) (k:q→B):g:=s.h h k
section
variable {c:Ctx} {Q:Exit→St→Prop} {st:St}
instance:Stp (Wp c .skip Q st) (Q .normal st):=⟨Wp_skip⟩
instance:Stp (Wp c .ret Q st) (Q .ret st):=⟨Wp_ret⟩
instance {id:Nat}:Stp (Wp c (.exit id) Q st) (Q (.exit id) st):=⟨Wp_exit⟩
instance {K:St→Prop}:Stp (Nxt K Q .normal st) (K st):=⟨nxt_normal⟩
instance {K:St→Prop}:Stp (Nxt K Q .ret st) (Q .ret st):=⟨nxt_ret⟩
instance {K:St→Prop} {id:Nat}:Stp (Nxt K Q (.exit id) st) (Q (.exit id) st):=⟨nxt_exit⟩
instance {id:Nat}:Stp (Blk id Q .normal st) (Q .normal st):=⟨blk_normal⟩
instance {id:Nat}:Stp (Blk id Q .ret st) (Q .ret st):=⟨blk_ret⟩
instance {id:Nat}:Stp (Blk id Q (.exit id) st) (Q .normal st):=⟨blk_eq⟩
theorem zr0 {id:Nat} {ops:Array Oper} (hc:CtxOk c) (h:OutK c.P c.G c.ns ops (HandS c ops fun st'=>Q .normal st') (absGo c.tt c.ns ops ops.toList st [] []) fun st' _=>Q .normal st')
    (hnb:Nat.ble c.nb0 st.nb=true:=by kernel_rfl) (hd:seqOk c.N ops=true:=by kernel_rfl):Wp c (.region id ops false) Q st:=Wp_region_seq hc (Nat.le_of_ble_eq_true hnb) hd h
theorem zm0 {id:Nat} {ops:Array Oper} (hc:CtxOk c) (h:OutK c.P c.G c.ns ops (fun _ _ _ _=>False) (absGo c.tt c.ns ops ops.toList st [] []) fun st' sh=>boxOk ops st.nb sh=true∧Q .normal st')
    (hm:c.P.follows .mixedOrders=true:=by exact mixed) (hnb:Nat.ble c.nb0 st.nb=true:=by kernel_rfl) (hd:drawOk c.N ops=true:=by kernel_rfl):Wp c (.region id ops true) Q st:=Wp_region hc hm (Nat.le_of_ble_eq_true hnb) hd h
class NR (e:Exit):Prop where h:e= .normal∨e= .ret
instance:NR .normal:=⟨.inl rfl⟩
instance:NR .ret:=⟨.inr rfl⟩
theorem zge {fn:Func} {rs:Array ResultVar} {r:AV} {e:Exit} [s:NR e] (hr:fn.results=rs) (h:EndK (resO c.tt st rs.toList [] []) r):Ax.Ends c fn r e st:=by
  rcases s.h with rfl|rfl
  · exact ends_normal hr h
  · exact ends_ret hr h
end
section
variable {T E:Prop}
instance:Stp (CondN (.one (.v (.bool true))) T E) T:=⟨zct⟩
instance:Stp (CondN (.one (.v (.bool false))) T E) E:=⟨zcf⟩
instance {p:Prop} {_:Decidable p}:St4 (CondN (.one (.v (.bool (decide p)))) T E) p T (¬p) E:=⟨zcd⟩
instance {a b:Int}:St4 (CondN (.one (.v (.bool (a == b)))) T E) (a=b) T (¬a=b) E:=⟨zce⟩
instance {a b:Int}:St4 (CondN (.one (.v (.bool (a != b)))) T E) (¬a=b) T (a=b) E:=⟨zcn⟩
instance (priority:=low) {b:Bool}:St4 (CondN (.one (.v (.bool b))) T E) (b=true) T (b=false) E:=⟨zci⟩
instance {ps:List Prop} {x r:AV}:St2 (EndN (some (ps,x)) r) (AllP ps) (Ax.Sub x r):=⟨zes⟩
instance {p:Prop} {ps:List Prop}:St2 (AllP (p :: ps)) p (AllP ps):=⟨allP_cons⟩
end
section
variable {G':World→Prop} {nb0:Nat} {ops:Array Oper} {H:Oper→List Oper→St→List Sh→Prop} {K:St→List Sh→Prop} {ps:List Prop} {rest:List Oper} {st:St} {sh:List Sh} {o:Oper} {d:Nat}
instance {P:Program}:St2 (OutN P G' nb0 ops H (.done ps st sh) K) (AllP ps) (K st sh):=⟨zod⟩
instance:St2 (OutN Tryz.prog G' nb0 ops H (.guard ps true true d o rest st sh) K) (AllP ps) (OutK Tryz.prog G' nb0 ops H (absOne tt nb0 o rest st sh [] (absGo tt nb0 ops rest)) K):=⟨zott tt_ok⟩
instance:St2 (OutN Tryz.prog G' nb0 ops H (.guard ps false false d o rest st sh) K) (AllP ps) (OutK Tryz.prog G' nb0 ops H (absOne tt nb0 o rest st sh [] (absGo tt nb0 ops rest)) K):=⟨zoff tt_ok⟩
instance:St2 (OutN Tryz.prog G' nb0 ops H (.guard ps true false d o rest st sh) K) (AllP ps) (OutK Tryz.prog G' nb0 ops H (absGo tt nb0 ops rest (st.put o.dst (.tup [])) (sh++ [⟨[],none⟩]) []) K):=⟨zotf tt_ok⟩
instance:St2 (OutN Tryz.prog G' nb0 ops H (.guard ps false true d o rest st sh) K) (AllP ps) (OutK Tryz.prog G' nb0 ops H (absGo tt nb0 ops rest (st.put o.dst (.tup [])) (sh++ [⟨[],none⟩]) []) K):=⟨zoft tt_ok⟩
abbrev goT (G':World→Prop) (nb0:Nat) (ops:Array Oper) (H:Oper→List Oper→St→List Sh→Prop) (K:St→List Sh→Prop) (rest:List Oper) (st:St) (sh:List Sh) (o:Oper) (d:Nat) (b:Bool):Prop:=OutK Tryz.prog G' nb0 ops H (absOne tt nb0 o rest { st with t:=upd st.t d (.one (.v (.bool b))) } sh [] (absGo tt nb0 ops rest)) K
abbrev skT (G':World→Prop) (nb0:Nat) (ops:Array Oper) (H:Oper→List Oper→St→List Sh→Prop) (K:St→List Sh→Prop) (rest:List Oper) (st:St) (sh:List Sh) (o:Oper) (d:Nat) (b:Bool):Prop:=OutK Tryz.prog G' nb0 ops H (absGo tt nb0 ops rest (({ st with t:=upd st.t d (.one (.v (.bool b))) }:St).put o.dst (.tup [])) (sh++ [⟨[],none⟩]) []) K
instance {p:Prop} {_:Decidable p}:St3 (OutN Tryz.prog G' nb0 ops H (.guard ps (decide p) true d o rest st sh) K) (AllP ps) p (goT G' nb0 ops H K rest st sh o d true) (¬p) (skT G' nb0 ops H K rest st sh o d false):=⟨zoitd tt_ok⟩
instance {p:Prop} {_:Decidable p}:St3 (OutN Tryz.prog G' nb0 ops H (.guard ps (decide p) false d o rest st sh) K) (AllP ps) (¬p) (goT G' nb0 ops H K rest st sh o d false) p (skT G' nb0 ops H K rest st sh o d true):=⟨zoifd tt_ok⟩
instance {x y:Int}:St3 (OutN Tryz.prog G' nb0 ops H (.guard ps (x == y) true d o rest st sh) K) (AllP ps) (x=y) (goT G' nb0 ops H K rest st sh o d true) (¬x=y) (skT G' nb0 ops H K rest st sh o d false):=⟨zoite tt_ok⟩
instance {x y:Int}:St3 (OutN Tryz.prog G' nb0 ops H (.guard ps (x == y) false d o rest st sh) K) (AllP ps) (¬x=y) (goT G' nb0 ops H K rest st sh o d false) (x=y) (skT G' nb0 ops H K rest st sh o d true):=⟨zoife tt_ok⟩
instance {x y:Int}:St3 (OutN Tryz.prog G' nb0 ops H (.guard ps (x != y) true d o rest st sh) K) (AllP ps) (¬x=y) (goT G' nb0 ops H K rest st sh o d true) (x=y) (skT G' nb0 ops H K rest st sh o d false):=⟨zoitn tt_ok⟩
instance {x y:Int}:St3 (OutN Tryz.prog G' nb0 ops H (.guard ps (x != y) false d o rest st sh) K) (AllP ps) (x=y) (goT G' nb0 ops H K rest st sh o d false) (¬x=y) (skT G' nb0 ops H K rest st sh o d true):=⟨zoifn tt_ok⟩
instance (priority:=low) {b:Bool}:St3 (OutN Tryz.prog G' nb0 ops H (.guard ps b true d o rest st sh) K) (AllP ps) (b=true) (goT G' nb0 ops H K rest st sh o d true) (b=false) (skT G' nb0 ops H K rest st sh o d false):=⟨zoit tt_ok⟩
instance (priority:=low) {b:Bool}:St3 (OutN Tryz.prog G' nb0 ops H (.guard ps b false d o rest st sh) K) (AllP ps) (b=false) (goT G' nb0 ops H K rest st sh o d false) (b=true) (skT G' nb0 ops H K rest st sh o d true):=⟨zoif tt_ok⟩
end
theorem zen {G':World→Prop} {f:FuncId} {fn:Func} {code:Code} {k:Nat} {args:List AV} {r:AV} (hf:Tryz.prog.funcs[f]?=some fn) (hb:fn.body=some code) (hn:fn.ntmps=k)
    (h:∀w0 E0,CtxOk ⟨Tryz.prog,tt,G',fn.ntmps,w0,E0,0,fun _=>False,0,[]⟩→Wp ⟨Tryz.prog,tt,G',fn.ntmps,w0,E0,0,fun _=>False,0,[]⟩ code (Ax.Ends ⟨Tryz.prog,tt,G',fn.ntmps,w0,E0,0,fun _=>False,0,[]⟩ fn r) ⟨nthA args,noBox,0,tru⟩)
    (hG:∀w w',Go.RowKit.Below w.heap.size w w'→G' w→G' w':=by first|exact G_below|exact fun _ _ _ _=>trivial)
    (ha:clV 0 args:=by simp [clV,AV.cl,clL,Leaf.cl]) (hr:r.cl 0:=by simp [AV.cl,clL,Leaf.cl,clV]) (hl:Nat.ble args.length k=true:=by exact rfl) (hname:(fn.name == "runtime.NumGoroutine")=false:=by kernel_rfl):Ax.Pure Tryz.prog G' f args r:=
  spec_of_wp tt_ok hf hb hname hG ⟨ha,hr⟩ (hn ▸ Nat.le_of_ble_eq_true hl) h
end Go.Proofs
end
section
namespace Go.Proofs
open Go.Ax
structure Rd {α:Prop} (E:α) (g p:Prop):Prop where h:p→g
def An (p q:Prop):Prop:=p∧q
def Im (a:Prop) (p:a→Prop):Prop:=∀h:a,p h
def Al (n:Nat) (p:∀i,i < n→Prop):Prop:=∀i (hi:i < n),p i hi
theorem zan {p q:Prop} (h:p) (k:q):An p q:=⟨h,k⟩
theorem zim {a:Prop} {p:a→Prop} (h:∀h,p h):Im a p:=h
theorem zal {n:Nat} {p:∀i,i < n→Prop} (h:∀i hi,p i hi):Al n p:=h
structure Ev (c:Ctx) (fn:Func) (rs:Array ResultVar):Prop where
  hc:CtxOk c
  hr:fn.results=rs
class Beg (g:Prop):Prop where h:True
def Stk (g:Prop):Prop:=g
section
variable {α:Prop} {E:α} {g a b c d p q r s:Prop}
theorem zzT (h:g):Rd E g True:=⟨fun _=>h⟩
theorem zzS [Beg g]:Rd E g (Stk g):=⟨id⟩
theorem zzL:Rd E g g:=⟨id⟩
theorem zz1 [t:Stp g a] (h:Rd E a p):Rd E g p:=⟨fun x=>t.h (h.h x)⟩
theorem zz2 [t:St2 g a b] (h:Rd E a p) (k:Rd E b q):Rd E g (An p q):=⟨fun x=>t.h (h.h x.1) (k.h x.2)⟩
theorem zz3 {A B:Prop} {q:b→Prop} {r:d→Prop} [t:St3 g a b A d B] (h:Rd E a p) (k:∀x:b,Rd E A (q x)) (l:∀x:d,Rd E B (r x)):Rd E g (An p (An (Im b q) (Im d r))):=⟨fun x=>t.h (h.h x.1) (fun y=>(k y).h (x.2.1 y)) fun y=>(l y).h (x.2.2 y)⟩
theorem zz4 {A B:Prop} {q:b→Prop} {r:d→Prop} [t:St4 g b A d B] (k:∀x:b,Rd E A (q x)) (l:∀x:d,Rd E B (r x)):Rd E g (An (Im b q) (Im d r)):=⟨fun x=>t.h (fun y=>(k y).h (x.1 y)) fun y=>(l y).h (x.2 y)⟩
theorem zzN {l:List Prop} (h:a) (k:Rd E (AllP l) p):Rd E (AllP (a :: l)) p:=⟨fun x=>allP_cons h (k.h x)⟩
theorem zzA {n:Nat} {P:∀i,i < n→Prop} {p:∀i,i < n→Prop} (h:∀i hi,Rd E (P i hi) (p i hi)):Rd E (∀i hi,P i hi) (Al n p):=⟨fun x i hi=>(h i hi).h (x i hi)⟩
theorem zh1 {x:Prop} (f:x→a→g) (y:x) (h:Rd E a p):Rd E g p:=⟨fun x=>f y (h.h x)⟩
theorem zh3 {x:Prop} (f:x→a→b→c→g) (y:x) (h:Rd E a p) (k:Rd E b q) (l:Rd E c r):Rd E g (An p (An q r)):=⟨fun x=>f y (h.h x.1) (k.h x.2.1) (l.h x.2.2)⟩
theorem zh4 {x:Prop} (f:x→a→b→c→d→g) (y:x) (h:Rd E a p) (k:Rd E b q) (l:Rd E c r) (m:Rd E d s):Rd E g (An p (An q (An r s))):=⟨fun x=>f y (h.h x.1) (k.h x.2.1) (l.h x.2.2.1) (m.h x.2.2.2)⟩
theorem zf1 (f:a→g) (h:Rd E a p):Rd E g p:=⟨fun x=>f (h.h x)⟩
theorem zf2 (f:a→b→g) (h:Rd E a p) (k:Rd E b q):Rd E g (An p q):=⟨fun x=>f (h.h x.1) (k.h x.2)⟩
theorem zf3 (f:a→b→c→g) (h:Rd E a p) (k:Rd E b q) (l:Rd E c r):Rd E g (An p (An q r)):=⟨fun x=>f (h.h x.1) (k.h x.2.1) (l.h x.2.2)⟩
theorem zh5 {x:Prop} (f:x→a→b→c→d→g) (y:x) (h:a) (k:Rd E b p) (l:Rd E c q) (m:Rd E d r):Rd E g (An p (An q r)):=⟨fun x=>f y h (k.h x.1) (l.h x.2.1) (m.h x.2.2)⟩
theorem zzc {x y:AV} {A B:Prop} (e:Is x y) (h:Rd E (CondN y A B) p):Rd E (CondK x A B) p:=⟨fun z=>(show x=y from e) ▸ h.h z⟩
theorem zzE {eo eo':Option (List Prop×AV)} {v:AV} (e:Is eo eo') (h:Rd E (EndN eo' v) p):Rd E (EndK eo v) p:=⟨fun z=>(show eo=eo' from e) ▸ h.h z⟩
theorem zzo {P:Program} {G':World→Prop} {nb0:Nat} {ops:Array Oper} {H:Oper→List Oper→St→List Sh→Prop} {out out':Out} {K:St→List Sh→Prop} (e:Is out out') (h:Rd E (OutN P G' nb0 ops H out' K) p):Rd E (OutK P G' nb0 ops H out K) p:=⟨fun z=>(show out=out' from e) ▸ h.h z⟩
theorem zzb {ops:Array Oper} {nb:Nat} {sh:List Sh} (h:Rd E a p) (hb:boxOk ops nb sh=true):Rd E (boxOk ops nb sh=true∧a) p:=⟨fun x=>⟨hb,h.h x⟩⟩
end
section
variable {C c:Ctx} {fn:Func} {rs:Array ResultVar} {E:Ev C fn rs} {Q:Exit→St→Prop} {st:St} {p:Prop}
theorem zzq {x y:Code} (h:Rd E (Wp c x (Nxt (Wp c y Q) Q) st) p):Rd E (Wp c (.seq x y) Q st) p:=⟨fun z=>Wp_seq (h.h z)⟩
theorem zzp {id:Nat} {x:Code} (h:Rd E (Wp c x (Blk id Q) st) p):Rd E (Wp c (.block id x) Q st) p:=⟨fun z=>Wp_block (h.h z)⟩
theorem zzk {x:Operand} {t e:Code} (h:Rd E (CondK (evAt st.t x) (Wp c t Q st) (Wp c e Q st)) p) (hk:constOk x=true):Rd E (Wp c (.cond x t e) Q st) p:=⟨fun z=>zwk (h.h z) hk⟩
theorem zzn {id id':Nat} (h:Rd E (Q (.exit id') st) p) (hn:Nat.beq id' id=false):Rd E (Blk id Q (.exit id') st) p:=⟨fun z=>zbn (h.h z) hn⟩
theorem zzr {E:Ev c fn rs} {id:Nat} {ops:Array Oper} (h:Rd E (OutK c.P c.G c.ns ops (HandS c ops fun st'=>Q .normal st') (absGo c.tt c.ns ops ops.toList st [] []) fun st' _=>Q .normal st') p)
    (hnb:Nat.ble c.nb0 st.nb=true) (hd:seqOk c.N ops=true):Rd E (Wp c (.region id ops false) Q st) p:=⟨fun z=>zr0 E.hc (h.h z) hnb hd⟩
theorem zzm {E:Ev c fn rs} {id:Nat} {ops:Array Oper} (h:Rd E (OutK c.P c.G c.ns ops (fun _ _ _ _=>False) (absGo c.tt c.ns ops ops.toList st [] []) fun st' sh=>boxOk ops st.nb sh=true∧Q .normal st') p)
    (hm:c.P.follows .mixedOrders=true) (hnb:Nat.ble c.nb0 st.nb=true) (hd:drawOk c.N ops=true):Rd E (Wp c (.region id ops true) Q st) p:=⟨fun z=>zm0 E.hc (h.h z) hm hnb hd⟩
theorem zze {E:Ev c fn rs} {v:AV} {e:Exit} [s:NR e] (h:Rd E (EndK (resO c.tt st rs.toList [] []) v) p):Rd E (Ax.Ends c fn v e st) p:=⟨fun z=>zge E.hr (h.h z)⟩
end
section
variable {c:Ctx} {Q:Exit→St→Prop} {st:St}
instance {x y:Code}:Beg (Wp c (.seq x y) Q st):=⟨trivial⟩
instance {id:Nat} {x:Code}:Beg (Wp c (.block id x) Q st):=⟨trivial⟩
instance {x:Operand} {t e:Code}:Beg (Wp c (.cond x t e) Q st):=⟨trivial⟩
instance {id:Nat} {ops:Array Oper} {b:Bool}:Beg (Wp c (.region id ops b) Q st):=⟨trivial⟩
instance:Beg (Wp c .skip Q st):=⟨trivial⟩
instance:Beg (Wp c .ret Q st):=⟨trivial⟩
instance {id:Nat}:Beg (Wp c (.exit id) Q st):=⟨trivial⟩
instance {K:St→Prop} {e:Exit}:Beg (Nxt K Q e st):=⟨trivial⟩
instance {id:Nat} {e:Exit}:Beg (Blk id Q e st):=⟨trivial⟩
instance {fn:Func} {v:AV} {e:Exit}:Beg (Ax.Ends c fn v e st):=⟨trivial⟩
instance {x:AV} {A B:Prop}:Beg (CondK x A B):=⟨trivial⟩
instance {x:Option (List Prop×AV)} {v:AV}:Beg (EndK x v):=⟨trivial⟩
instance {P:Program} {G':World→Prop} {nb0:Nat} {ops:Array Oper} {H:Oper→List Oper→St→List Sh→Prop} {out:Out} {K:St→List Sh→Prop}:Beg (OutK P G' nb0 ops H out K):=⟨trivial⟩
instance {l:List Prop}:Beg (AllP l):=⟨trivial⟩
end
section
variable {c:Ctx} {fn:Func} {rs:Array ResultVar} {g p:Prop}
theorem zR1 [Beg g] (hc:CtxOk c) (hr:fn.results=rs) (k:p) (h:Rd (Ev.mk hc hr) g p:=by repeat' (first|(with_reducible first|apply zz1|apply zzq|apply zzp|apply zzr|apply zzm|apply zzk|apply zzn|apply zze|refine zzT (Sub.refl _)|refine zzT allP_nil|apply zzo|apply zzc|apply zzE|exact zia1)|(with_reducible apply zzN;focus (first|decide|omega))|(with_reducible first|apply zz2|apply zzb|apply zz3|apply zz4)|(intro h)|exact zzS|exact zzL|(with_reducible exact mixed)|kernel_rfl)):g:=h.h k
end
section
variable {st:St} {l:List (Nat×AV)} {hs:List (Nat×Box)} {nb nb0:Nat} {l1:List (AV×AV)} {h1:List (Nat×Option Box×Box)} {p q:Prop}
theorem zW1 (k:An p q) (e1:Is (slotPairs st.t l) l1:=by exact zia1) (e2:Is (boxPairs st.h hs) h1:=by exact zia1) (r1:Rd trivial (SlotsOk nb l1) p:=by repeat' (first|(exact rfl)|(with_reducible first|refine zzT slotsOk_nil|refine zzT boxesOk_nil|apply zf2 slotsOk_eq|apply zf3 slotsOk_cons|apply zh3 boxesOk_one|apply zh4 boxesOk_cons|apply zf1 sub_int|apply zf2 sub_own_eq|apply zf2 sub_gr_eq|refine zzT sub_nil_gr|refine zzT sub_own_gr|apply zzA)|(refine zzT ?_;focus (first|omega|(simp only [IntKind.wrap_i64,IntKind.wrap_u64,List.length_append,List.length_singleton,List.length_cons,List.length_nil];omega)))|(refine zzT ?_;focus ((first|show AV.cl _ _|show clL _ _);simp [AV.cl,clL,Leaf.cl,clV];done))|(refine zzT ?_;focus (dsimp only [ite00];done))|(with_reducible first|refine zzT (SubLv.refl _)|apply zf2 subLv_int|apply zf2 subLv_frac)|(refine zzT ?_;focus (dsimp only [ite00];with_reducible exact SubLv.refl _))|(intro h)|exact zzL)) (r2:Rd trivial (BoxesOk nb h1) q:=by repeat' (first|(exact rfl)|(with_reducible first|refine zzT slotsOk_nil|refine zzT boxesOk_nil|apply zf2 slotsOk_eq|apply zf3 slotsOk_cons|apply zh3 boxesOk_one|apply zh4 boxesOk_cons|apply zf1 sub_int|apply zf2 sub_own_eq|apply zf2 sub_gr_eq|refine zzT sub_nil_gr|refine zzT sub_own_gr|apply zzA)|(refine zzT ?_;focus (first|omega|(simp only [IntKind.wrap_i64,IntKind.wrap_u64,List.length_append,List.length_singleton,List.length_cons,List.length_nil];omega)))|(refine zzT ?_;focus ((first|show AV.cl _ _|show clL _ _);simp [AV.cl,clL,Leaf.cl,clV];done))|(refine zzT ?_;focus (dsimp only [ite00];done))|(with_reducible first|refine zzT (SubLv.refl _)|apply zf2 subLv_int|apply zf2 subLv_frac)|(refine zzT ?_;focus (dsimp only [ite00];with_reducible exact SubLv.refl _))|(intro h)|exact zzL)) (e3:Nat.ble nb0 nb=true:=by rfl):Weaker nb0 st (stOf l hs nb):=weaker_of (by have e1:_=_:=e1;rw [e1];exact r1.h k.1) (by have e2:_=_:=e2;rw [e2];exact r2.h k.2) e3
theorem zW2 (k:An p q) (e1:Is (slotPairs st.t l) l1:=by exact zia1) (e2:Is (boxPairs st.h hs) h1:=by exact zia1) (r1:Rd trivial (SlotsOk nb l1) p:=by repeat' (first|(exact rfl)|(with_reducible first|refine zzT slotsOk_nil|refine zzT boxesOk_nil|apply zf2 slotsOk_eq|apply zf3 slotsOk_cons|apply zh1 boxesOk_none)|((with_reducible apply zh5 boxesOk_cons_t);(focus (exact rfl));(focus (intro i hi;first|exact rowG_cl _|(simp [AV.cl,clL,Leaf.cl,clV];done))))|(with_reducible first|apply zh3 boxesOk_one|apply zh4 boxesOk_cons|apply zf1 sub_int|apply zf2 sub_own_eq|apply zf2 sub_gr_eq|refine zzT sub_nil_gr|refine zzT sub_own_gr|apply zzA)|(refine zzT ?_;focus (first|omega|(simp only [IntKind.wrap_i64,IntKind.wrap_u64,List.length_append,List.length_singleton,List.length_cons,List.length_nil];omega)))|(refine zzT ?_;focus ((first|show AV.cl _ _|show clL _ _);simp [AV.cl,clL,Leaf.cl,clV];done))|(refine zzT ?_;focus (dsimp only [ite00];done))|(with_reducible first|refine zzT (SubLv.refl _)|apply zf2 subLv_int|apply zf2 subLv_frac)|(refine zzT ?_;focus (dsimp only [ite00];with_reducible exact SubLv.refl _))|(intro h)|exact zzL)) (r2:Rd trivial (BoxesOk nb h1) q:=by repeat' (first|(exact rfl)|(with_reducible first|refine zzT slotsOk_nil|refine zzT boxesOk_nil|apply zf2 slotsOk_eq|apply zf3 slotsOk_cons|apply zh1 boxesOk_none)|((with_reducible apply zh5 boxesOk_cons_t);(focus (exact rfl));(focus (intro i hi;first|exact rowG_cl _|(simp [AV.cl,clL,Leaf.cl,clV];done))))|(with_reducible first|apply zh3 boxesOk_one|apply zh4 boxesOk_cons|apply zf1 sub_int|apply zf2 sub_own_eq|apply zf2 sub_gr_eq|refine zzT sub_nil_gr|refine zzT sub_own_gr|apply zzA)|(refine zzT ?_;focus (first|omega|(simp only [IntKind.wrap_i64,IntKind.wrap_u64,List.length_append,List.length_singleton,List.length_cons,List.length_nil];omega)))|(refine zzT ?_;focus ((first|show AV.cl _ _|show clL _ _);simp [AV.cl,clL,Leaf.cl,clV];done))|(refine zzT ?_;focus (dsimp only [ite00];done))|(with_reducible first|refine zzT (SubLv.refl _)|apply zf2 subLv_int|apply zf2 subLv_frac)|(refine zzT ?_;focus (dsimp only [ite00];with_reducible exact SubLv.refl _))|(intro h)|exact zzL)) (e3:Nat.ble nb0 nb=true:=by rfl):Weaker nb0 st (stOf l hs nb):=weaker_of (by have e1:_=_:=e1;rw [e1];exact r1.h k.1) (by have e2:_=_:=e2;rw [e2];exact r2.h k.2) e3
end
end Go.Proofs
end
section
namespace Go.Ax
theorem sub_row_list {k:IntKind} (ls:List Int):Sub (.one (.row 1 ls.length (fun i=>(ls.map fun x=> [Leaf.v (.int k x)]).getD i []))) (.one (.ints k ls)):=
  sub_row_ints rfl fun i hi=>by simp [List.getD_eq_getElem?_getD,hi]
end Go.Ax
end
section
namespace Go.Ax
open Go.RowKit (Below)
def rowS (ls:List ByteArray) (i:Nat):List Leaf:=if i < ls.length then [.v (.string (ls.getD i ⟨#[]⟩))] else [.u]
theorem rowS_lt {ls:List ByteArray} {i:Nat} (h:i < ls.length):rowS ls i= [.v (.string (ls.getD i ⟨#[]⟩))]:=if_pos h
variable {c:Ctx} {Q:Exit→St→Prop} {st:St}
def lastSt (st:St) (d:Nat) (v:Value):St:={ t:=fun n=>if n=d then .one (.v v) else .u,h:=fun _=>none,nb:=st.nb,gh:=tru }
theorem SR.last {E:Env} {a a':Act} {w w':World} (s:SR c st E a w) {d:Nat} {v:Value} (hsz:a'.tmps.size=c.N) (hd:DefR c E w' a'.defers) (hv:a'.tmps.getD d undef=v) (h1:v.oneCell'=true) (hb:Below w.heap.size w w'):SR c (lastSt st d v) E a' w' where
  size:=hsz
  defers:=hd
  slots:=fun n=>by
    unfold lastSt
    dsimp only
    split
    · rename_i h;subst h;exact ⟨rfl,by rw [hv],h1⟩
    · trivial
  boxes:=fun _ _ h=>by cases h
  env:=s.env.below hb.size
  below:=s.below.below hb s.below.size
  own:=s.own
  low:=s.low
  m:=s.m
  free:=s.free
  ownM:=s.ownM
  gh:=ghR_tru
theorem SR.texts {E:Env} {a:Act} {w:World} (s:SR c st E a w) {t b n cc:Nat} {ls:List ByteArray} {ro:Bool} (ht:st.t t= .one (.gr b 1 n cc)) (hbox:st.h b=some ⟨1,cc,rowS ls,ro⟩) (hls:ls.length=n) (hn:n≤cc) (h0:0 < n) :
    ∃k,a.tmps.getD t undef= .slice (some ⟨k,0,none⟩) n cc∧k < w.heap.size∧∀i,i < n→w.cell? ⟨k,i,none⟩=some (.string (ls.getD i ⟨#[]⟩)):=by
  have hs:=s.slots t
  rw [ht] at hs
  obtain ⟨_,hs|⟨k,hk,hs⟩⟩:=hs
  · omega
  simp only [List.cons.injEq,and_true] at hs
  refine ⟨k,hs,s.env.r b k hk,fun i hi=>?_⟩
  rcases s.boxes b _ hbox with ⟨_,h0⟩|⟨k',cs,T,h1,h2,h3,h4⟩
  · dsimp only at h0;omega
  rw [hk] at h1
  cases h1
  obtain ⟨es,e1,e2,e3⟩:=h4 i (show i < cc by omega)
  dsimp only at e2 e3
  rw [rowS_lt (by omega)] at e2
  obtain ⟨xs,ys,rfl,⟨rfl,_⟩,rfl⟩:=e2
  have:=e3 0 _ rfl
  simp only [Nat.mul_one,Nat.add_zero] at this
  simp [World.cell?,h2,this]
end Go.Ax
end
