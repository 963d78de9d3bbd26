/- Lemmas on the program and its library: part Z14. -/
import Derived.Lib.AppendIntMem
import Derived.Lib.Atoi
import Derived.Lib.Repeat
import Derived.Lib.Strings
import Derived.Lib.Bytealg
import Derived.Test.YtoiejgkkcfkliaaGreatDoorZ12
set_option linter.unusedVariables false
set_option linter.unusedSimpArgs false
section
namespace Go.Proofs
open Go.Ax
structure Rd {α:Prop} (E:α) (g p:Prop):Prop where h:p→g
def An (p q:Prop):Prop:=p∧q
def Im (a:Prop) (p:a→Prop):Prop:=∀h:a,p h
def Al (n:Nat) (p:∀i,i < n→Prop):Prop:=∀i (hi:i < n),p i hi
theorem j3 {p q:Prop} (h:p) (k:q):An p q:=⟨h,k⟩
theorem m8 {a:Prop} {p:a→Prop} (h:∀h,p h):Im a p:=h
theorem t7 {n:Nat} {p:∀i,i < n→Prop} (h:∀i hi,p i hi):Al n p:=h
structure Ev (c:Ctx) (fn:Func) (rs:Array ResultVar):Prop where
  hc:a0d c
  hr:fn.results=rs
class Beg (g:Prop):Prop where h:True
def Stk (g:Prop):Prop:=g
section
variable {α:Prop} {E:α} {g a b c d p q r s:Prop}
theorem zzT (h:g):Rd E g True:=⟨fun _=>h⟩
theorem zzS [Beg g]:Rd E g (Stk g):=⟨id⟩
theorem zzL:Rd E g g:=⟨id⟩
theorem zz1 [t:Stp g a] (h:Rd E a p):Rd E g p:=⟨fun x=>t.h (h.h x)⟩
theorem zz2 [t:St2 g a b] (h:Rd E a p) (k:Rd E b q):Rd E g (An p q):=⟨fun x=>t.h (h.h x.1) (k.h x.2)⟩
theorem zz3 {A B:Prop} {q:b→Prop} {r:d→Prop} [t:St3 g a b A d B] (h:Rd E a p) (k:∀x:b,Rd E A (q x)) (l:∀x:d,Rd E B (r x)):Rd E g (An p (An (Im b q) (Im d r))):=⟨fun x=>t.h (h.h x.1) (fun y=>(k y).h (x.2.1 y)) fun y=>(l y).h (x.2.2 y)⟩
theorem zz4 {A B:Prop} {q:b→Prop} {r:d→Prop} [t:St4 g b A d B] (k:∀x:b,Rd E A (q x)) (l:∀x:d,Rd E B (r x)):Rd E g (An (Im b q) (Im d r)):=⟨fun x=>t.h (fun y=>(k y).h (x.1 y)) fun y=>(l y).h (x.2 y)⟩
theorem zzN {l:List Prop} (h:a) (k:Rd E (y8 l) p):Rd E (y8 (a :: l)) p:=⟨fun x=>f6 h (k.h x)⟩
theorem zzA {n:Nat} {P:∀i,i < n→Prop} {p:∀i,i < n→Prop} (h:∀i hi,Rd E (P i hi) (p i hi)):Rd E (∀i hi,P i hi) (Al n p):=⟨fun x i hi=>(h i hi).h (x i hi)⟩
theorem zh1 {x:Prop} (f:x→a→g) (y:x) (h:Rd E a p):Rd E g p:=⟨fun x=>f y (h.h x)⟩
theorem zh3 {x:Prop} (f:x→a→b→c→g) (y:x) (h:Rd E a p) (k:Rd E b q) (l:Rd E c r):Rd E g (An p (An q r)):=⟨fun x=>f y (h.h x.1) (k.h x.2.1) (l.h x.2.2)⟩
theorem zh4 {x:Prop} (f:x→a→b→c→d→g) (y:x) (h:Rd E a p) (k:Rd E b q) (l:Rd E c r) (m:Rd E d s):Rd E g (An p (An q (An r s))):=⟨fun x=>f y (h.h x.1) (k.h x.2.1) (l.h x.2.2.1) (m.h x.2.2.2)⟩
theorem zf1 (f:a→g) (h:Rd E a p):Rd E g p:=⟨fun x=>f (h.h x)⟩
theorem zf2 (f:a→b→g) (h:Rd E a p) (k:Rd E b q):Rd E g (An p q):=⟨fun x=>f (h.h x.1) (k.h x.2)⟩
theorem zf3 (f:a→b→c→g) (h:Rd E a p) (k:Rd E b q) (l:Rd E c r):Rd E g (An p (An q r)):=⟨fun x=>f (h.h x.1) (k.h x.2.1) (l.h x.2.2)⟩
theorem zh5 {x:Prop} (f:x→a→b→c→d→g) (y:x) (h:a) (k:Rd E b p) (l:Rd E c q) (m:Rd E d r):Rd E g (An p (An q r)):=⟨fun x=>f y h (k.h x.1) (l.h x.2.1) (m.h x.2.2)⟩
theorem zzc {x y:AV} {A B:Prop} (e:Is x y) (h:Rd E (a6s y A B) p):Rd E (a5s x A B) p:=⟨fun z=>(show x=y from e) ▸ h.h z⟩
theorem zzE {eo eo':Option (List Prop×AV)} {v:AV} (e:Is eo eo') (h:Rd E (d3t eo' v) p):Rd E (b6d eo v) p:=⟨fun z=>(show eo=eo' from e) ▸ h.h z⟩
theorem zzo {P:Program} {G':World→Prop} {nb0:Nat} {ops:Array Oper} {H:Oper→List Oper→St→List Sh→Prop} {out out':Out} {K:St→List Sh→Prop} (e:Is out out') (h:Rd E (a3i P G' nb0 ops H out' K) p):Rd E (t8 P G' nb0 ops H out K) p:=⟨fun z=>(show out=out' from e) ▸ h.h z⟩
theorem zzb {ops:Array Oper} {nb:Nat} {sh:List Sh} (h:Rd E a p) (hb:b00 ops nb sh=true):Rd E (b00 ops nb sh=true∧a) p:=⟨fun x=>⟨hb,h.h x⟩⟩
end
section
variable {C c:Ctx} {fn:Func} {rs:Array ResultVar} {E:Ev C fn rs} {Q:Exit→St→Prop} {st:St} {p:Prop}
theorem zzq {x y:Code} (h:Rd E (Wp c x (Nxt (Wp c y Q) Q) st) p):Rd E (Wp c (.seq x y) Q st) p:=⟨fun z=>j0 (h.h z)⟩
theorem zzp {id:Nat} {x:Code} (h:Rd E (Wp c x (Blk id Q) st) p):Rd E (Wp c (.block id x) Q st) p:=⟨fun z=>i6 (h.h z)⟩
theorem zzk {x:Operand} {t e:Code} (h:Rd E (a5s (a1o st.t x) (Wp c t Q st) (Wp c e Q st)) p) (hk:a0v x=true):Rd E (Wp c (.cond x t e) Q st) p:=⟨fun z=>zwk (h.h z) hk⟩
theorem zzn {id id':Nat} (h:Rd E (Q (.exit id') st) p) (hn:Nat.beq id' id=false):Rd E (Blk id Q (.exit id') st) p:=⟨fun z=>zbn (h.h z) hn⟩
theorem zzr {E:Ev c fn rs} {id:Nat} {ops:Array Oper} (h:Rd E (t8 c.P c.G c.ns ops (a22 c ops fun st'=>Q .normal st') (n9 c.tt c.ns ops ops.toList st [] []) fun st' _=>Q .normal st') p)
    (hnb:Nat.ble c.nb0 st.nb=true) (hd:c2g c.N ops=true):Rd E (Wp c (.region id ops false) Q st) p:=⟨fun z=>zr0 E.hc (h.h z) hnb hd⟩
theorem zzm {E:Ev c fn rs} {id:Nat} {ops:Array Oper} (h:Rd E (t8 c.P c.G c.ns ops (fun _ _ _ _=>False) (n9 c.tt c.ns ops ops.toList st [] []) fun st' sh=>b00 ops st.nb sh=true∧Q .normal st') p)
    (hm:c.P.follows .mixedOrders=true) (hnb:Nat.ble c.nb0 st.nb=true) (hd:b6m c.N ops=true):Rd E (Wp c (.region id ops true) Q st) p:=⟨fun z=>zm0 E.hc (h.h z) hm hnb hd⟩
theorem zze {E:Ev c fn rs} {v:AV} {e:Exit} [s:NR e] (h:Rd E (b6d (b0s c.tt st rs.toList [] []) v) p):Rd E (Ax.Ends c fn v e st) p:=⟨fun z=>zge E.hr (h.h z)⟩
end
section
variable {c:Ctx} {Q:Exit→St→Prop} {st:St}
instance {x y:Code}:Beg (Wp c (.seq x y) Q st):=⟨trivial⟩
instance {id:Nat} {x:Code}:Beg (Wp c (.block id x) Q st):=⟨trivial⟩
instance {x:Operand} {t e:Code}:Beg (Wp c (.cond x t e) Q st):=⟨trivial⟩
instance {id:Nat} {ops:Array Oper} {b:Bool}:Beg (Wp c (.region id ops b) Q st):=⟨trivial⟩
instance:Beg (Wp c .skip Q st):=⟨trivial⟩
instance:Beg (Wp c .ret Q st):=⟨trivial⟩
instance {id:Nat}:Beg (Wp c (.exit id) Q st):=⟨trivial⟩
instance {K:St→Prop} {e:Exit}:Beg (Nxt K Q e st):=⟨trivial⟩
instance {id:Nat} {e:Exit}:Beg (Blk id Q e st):=⟨trivial⟩
instance {fn:Func} {v:AV} {e:Exit}:Beg (Ax.Ends c fn v e st):=⟨trivial⟩
instance {x:AV} {A B:Prop}:Beg (a5s x A B):=⟨trivial⟩
instance {x:Option (List Prop×AV)} {v:AV}:Beg (b6d x v):=⟨trivial⟩
instance {P:Program} {G':World→Prop} {nb0:Nat} {ops:Array Oper} {H:Oper→List Oper→St→List Sh→Prop} {out:Out} {K:St→List Sh→Prop}:Beg (t8 P G' nb0 ops H out K):=⟨trivial⟩
instance {l:List Prop}:Beg (y8 l):=⟨trivial⟩
end
section
variable {c:Ctx} {fn:Func} {rs:Array ResultVar} {g p:Prop}
theorem zR0 [Beg g] (hc:a0d c) (hr:fn.results=rs) (k:p) (h:Rd (Ev.mk hc hr) g p:=by repeat' (first|(with_reducible first|apply zz1|apply zzq|apply zzp|apply zzr|apply zzm|apply zzk|apply zzn|apply zze|refine zzT (Sub.refl _)|refine zzT f9|apply zzo|apply zzc|apply zzE|exact zia0)|(with_reducible apply zzN;focus (first|decide|omega))|(with_reducible first|apply zz2|apply zzb|apply zz3|apply zz4)|(intro h)|exact zzS|exact zzL|(with_reducible exact mixed)|kernel_rfl)):g:=h.h k
theorem n7 [Beg g] (hc:a0d c) (hr:fn.results=rs) (k:p) (h:Rd (Ev.mk hc hr) g p:=by repeat' (first|(with_reducible first|apply zz1|apply zzq|apply zzp|apply zzr|apply zzm|apply zzk|apply zzn|apply zze|refine zzT (Sub.refl _)|refine zzT f9|apply zzo|apply zzc|apply zzE|exact b7p)|(with_reducible apply zzN;focus (first|decide|omega))|(with_reducible first|apply zz2|apply zzb|apply zz3|apply zz4)|(intro h)|exact zzS|exact zzL|(with_reducible exact mixed)|kernel_rfl)):g:=h.h k
end
section
variable {st:St} {l:List (Nat×AV)} {hs:List (Nat×Box)} {nb nb0:Nat} {l1:List (AV×AV)} {h1:List (Nat×Option Box×Box)} {p q:Prop}
theorem zW0 (k:An p q) (e1:Is (a0t st.t l) l1:=by exact zia0) (e2:Is (a08 st.h hs) h1:=by exact zia0) (r1:Rd trivial (a32 nb l1) p:=by repeat' (first|(exact rfl)|(with_reducible first|refine zzT a4h|refine zzT a28|apply zf2 a2b|apply zf3 a2r|apply zh4 a3j|apply zf1 a7y|apply zf2 a5g|apply zf2 a6q|refine zzT a4c|refine zzT a5h|apply zzA)|(refine zzT ?_;focus (first|omega|(simp only [IntKind.wrap_i64,IntKind.wrap_u64,List.length_append,List.length_singleton,List.length_cons,List.length_nil];omega)))|(refine zzT ?_;focus ((first|show AV.cl _ _|show clL _ _);simp [AV.cl,clL,i7.cl,clV];done))|(intro h)|exact zzL)) (r2:Rd trivial (a1g nb h1) q:=by repeat' (first|(exact rfl)|(with_reducible first|refine zzT a4h|refine zzT a28|apply zf2 a2b|apply zf3 a2r|apply zh4 a3j|apply zf1 a7y|apply zf2 a5g|apply zf2 a6q|refine zzT a4c|refine zzT a5h|apply zzA)|(refine zzT ?_;focus (first|omega|(simp only [IntKind.wrap_i64,IntKind.wrap_u64,List.length_append,List.length_singleton,List.length_cons,List.length_nil];omega)))|(refine zzT ?_;focus ((first|show AV.cl _ _|show clL _ _);simp [AV.cl,clL,i7.cl,clV];done))|(intro h)|exact zzL)) (e3:Nat.ble nb0 nb=true:=by rfl):a1r nb0 st (n5 l hs nb):=b2n (by have e1:_=_:=e1;rw [e1];exact r1.h k.1) (by have e2:_=_:=e2;rw [e2];exact r2.h k.2) e3
theorem zW1 (k:An p q) (e1:Is (a0t st.t l) l1:=by exact b7p) (e2:Is (a08 st.h hs) h1:=by exact b7p) (r1:Rd trivial (a32 nb l1) p:=by repeat' (first|(exact rfl)|(with_reducible first|refine zzT a4h|refine zzT a28|apply zf2 a2b|apply zf3 a2r|apply zh3 a7k|apply zh4 a3j|apply zf1 a7y|apply zf2 a5g|apply zf2 a6q|refine zzT a4c|refine zzT a5h|apply zzA)|(refine zzT ?_;focus (first|omega|(simp only [IntKind.wrap_i64,IntKind.wrap_u64,List.length_append,List.length_singleton,List.length_cons,List.length_nil];omega)))|(refine zzT ?_;focus ((first|show AV.cl _ _|show clL _ _);simp [AV.cl,clL,i7.cl,clV];done))|(refine zzT ?_;focus (dsimp only [a7r];done))|(with_reducible first|refine zzT (u4.refl _)|apply zf2 a9o|apply zf2 b0k)|(refine zzT ?_;focus (dsimp only [a7r];with_reducible exact u4.refl _))|(intro h)|exact zzL)) (r2:Rd trivial (a1g nb h1) q:=by repeat' (first|(exact rfl)|(with_reducible first|refine zzT a4h|refine zzT a28|apply zf2 a2b|apply zf3 a2r|apply zh3 a7k|apply zh4 a3j|apply zf1 a7y|apply zf2 a5g|apply zf2 a6q|refine zzT a4c|refine zzT a5h|apply zzA)|(refine zzT ?_;focus (first|omega|(simp only [IntKind.wrap_i64,IntKind.wrap_u64,List.length_append,List.length_singleton,List.length_cons,List.length_nil];omega)))|(refine zzT ?_;focus ((first|show AV.cl _ _|show clL _ _);simp [AV.cl,clL,i7.cl,clV];done))|(refine zzT ?_;focus (dsimp only [a7r];done))|(with_reducible first|refine zzT (u4.refl _)|apply zf2 a9o|apply zf2 b0k)|(refine zzT ?_;focus (dsimp only [a7r];with_reducible exact u4.refl _))|(intro h)|exact zzL)) (e3:Nat.ble nb0 nb=true:=by rfl):a1r nb0 st (n5 l hs nb):=b2n (by have e1:_=_:=e1;rw [e1];exact r1.h k.1) (by have e2:_=_:=e2;rw [e2];exact r2.h k.2) e3
theorem zW2 (k:An p q) (e1:Is (a0t st.t l) l1:=by exact b7p) (e2:Is (a08 st.h hs) h1:=by exact b7p) (r1:Rd trivial (a32 nb l1) p:=by repeat' (first|(exact rfl)|(with_reducible first|refine zzT a4h|refine zzT a28|apply zf2 a2b|apply zf3 a2r|apply zh1 b4i)|((with_reducible apply zh5 a6x);(focus (exact rfl));(focus (intro i hi;first|exact c4l _|(simp [AV.cl,clL,i7.cl,clV];done))))|(with_reducible first|apply zh3 a7k|apply zh4 a3j|apply zf1 a7y|apply zf2 a5g|apply zf2 a6q|refine zzT a4c|refine zzT a5h|apply zzA)|(refine zzT ?_;focus (first|omega|(simp only [IntKind.wrap_i64,IntKind.wrap_u64,List.length_append,List.length_singleton,List.length_cons,List.length_nil];omega)))|(refine zzT ?_;focus ((first|show AV.cl _ _|show clL _ _);simp [AV.cl,clL,i7.cl,clV];done))|(refine zzT ?_;focus (dsimp only [a7r];done))|(with_reducible first|refine zzT (u4.refl _)|apply zf2 a9o|apply zf2 b0k)|(refine zzT ?_;focus (dsimp only [a7r];with_reducible exact u4.refl _))|(intro h)|exact zzL)) (r2:Rd trivial (a1g nb h1) q:=by repeat' (first|(exact rfl)|(with_reducible first|refine zzT a4h|refine zzT a28|apply zf2 a2b|apply zf3 a2r|apply zh1 b4i)|((with_reducible apply zh5 a6x);(focus (exact rfl));(focus (intro i hi;first|exact c4l _|(simp [AV.cl,clL,i7.cl,clV];done))))|(with_reducible first|apply zh3 a7k|apply zh4 a3j|apply zf1 a7y|apply zf2 a5g|apply zf2 a6q|refine zzT a4c|refine zzT a5h|apply zzA)|(refine zzT ?_;focus (first|omega|(simp only [IntKind.wrap_i64,IntKind.wrap_u64,List.length_append,List.length_singleton,List.length_cons,List.length_nil];omega)))|(refine zzT ?_;focus ((first|show AV.cl _ _|show clL _ _);simp [AV.cl,clL,i7.cl,clV];done))|(refine zzT ?_;focus (dsimp only [a7r];done))|(with_reducible first|refine zzT (u4.refl _)|apply zf2 a9o|apply zf2 b0k)|(refine zzT ?_;focus (dsimp only [a7r];with_reducible exact u4.refl _))|(intro h)|exact zzL)) (e3:Nat.ble nb0 nb=true:=by rfl):a1r nb0 st (n5 l hs nb):=b2n (by have e1:_=_:=e1;rw [e1];exact r1.h k.1) (by have e2:_=_:=e2;rw [e2];exact r2.h k.2) e3
end
end Go.Proofs
end
section
namespace Go.Ax
def gF (B v1 v2 u3:Nat):Nat→Nat→Nat
  | 0,_=>0
  | t+1,r=>if B≤t+1∨r*B+u3 < (t+1)*v2 then (if B≤r+v1 then t else gF B v1 v2 u3 t (r+v1)) else t+1
section
variable {B p v1 v2 Vl u1 u2 u3 Ul T U V:Nat}
theorem e2a (hT:T=u1*B+u2) (hU:U=(T*B+u3)*p+Ul) (hV:V=(v1*B+v2)*p+Vl) (hUV:U < B*V) (hVl:Vl < p) (hv2:v2 < B) (hB:0 < B):u1≤v1:=by
  rcases Nat.lt_or_ge v1 u1 with h|h
  · exfalso
    have h1:(v1+1)*B≤u1*B:=Nat.mul_le_mul_right _ h
    have h2:V < (v1+1)*B*p:=by
      have:(v1*B+v2+1)*p≤((v1+1)*B)*p:=Nat.mul_le_mul_right _ (by rw [Nat.add_mul];omega)
      rw [Nat.add_mul (v1*B+v2) 1 p] at this
      omega
    have h3:B*V≤B*((v1+1)*B*p):=Nat.mul_le_mul_left _ (Nat.le_of_lt h2)
    have h4:(v1+1)*B*B*p≤(T*B+u3)*p:=Nat.mul_le_mul_right _ (by
      have:=Nat.mul_le_mul_right B h1
      have h5:T*B=u1*B*B+u2*B:=by rw [hT,Nat.add_mul]
      omega)
    have h5:B*((v1+1)*B*p)=(v1+1)*B*B*p:=by
      rw [←Nat.mul_assoc,Nat.mul_comm B ((v1+1)*B)]
    omega
  · exact h
theorem d95 (hT:T=u1*B+u2) (hU:U=(T*B+u3)*p+Ul) (hV:V=(v1*B+v2)*p+Vl) (hUV:U < B*V) (hUl:Ul < p) (hVl:Vl < p) (hB:0 < B) (hu2:u2 < B) (hv1:0 < v1) (hv2:v2 < B) :
    ∀t r,T=t*v1+r→U < (t+1)*V→KG B U V (gF B v1 v2 u3 t r):=by
  have htop:=e2a hT hU hV hUV hVl hv2 hB
  intro t
  induction t with
  | zero =>
    intro r hr hup
    exact ⟨hup,by simp [gF],hB⟩
  | succ t ih =>
    intro r hr hup
    unfold gF
    by_cases hc:B≤t+1∨r*B+u3 < (t+1)*v2
    · rw [if_pos hc]
      have hup':U < (t+1)*V:=by
        rcases hc with hc|hc
        · exact Nat.lt_of_lt_of_le hUV (Nat.mul_le_mul_right _ hc)
        · exact d55 hV hU hUl hr hc
      have hr':T=t*v1+(r+v1):=by rw [hr,Nat.add_mul];omega
      by_cases hb:B≤r+v1
      · rw [if_pos hb]
        have ht:t < B:=by
          rcases Nat.lt_or_ge t B with h|h
          · exact h
          · exfalso
            have h1:B*v1≤t*v1:=Nat.mul_le_mul_right _ h
            have h2:u1*B≤v1*B:=Nat.mul_le_mul_right _ htop
            rw [Nat.mul_comm B v1] at h1
            omega
        refine ⟨hup',b8l hV hU hVl hr' ht hv1 ?_,ht⟩
        have h1:t*v2≤B*B:=Nat.mul_le_mul (Nat.le_of_lt ht) (Nat.le_of_lt hv2)
        have h2:B*B≤(r+v1)*B:=Nat.mul_le_mul_right _ hb
        omega
      · rw [if_neg hb]
        exact ih _ hr' hup'
    · rw [if_neg hc]
      have hc1:t+1 < B:=by omega
      have hc2:(t+1)*v2≤r*B+u3:=by omega
      exact ⟨hup,b8l hV hU hVl hr hc1 hv1 hc2,hc1⟩
end
structure Ms1 (B q:Nat) (u v o:List Nat) (c:Nat):Prop where
  lt:∀d∈o,d < B
  hc:c≤q+1
  len:o.length≤v.length
  eq:val B o+q*val B (v.take o.length)=val B (u.take o.length)+B ^ o.length*c
theorem Ms1.nil (B q:Nat) (u v:List Nat):Ms1 B q u v [] 0:=⟨by simp,Nat.zero_le _,Nat.zero_le _,by simp [val]⟩
theorem Ms1.step {B q:Nat} {u v o:List Nat} {c d c':Nat} (h:Ms1 B q u v o c) (hl:o.length < v.length) (hd:d < B) (hc':c'≤q+1) (e:d+(q*v.getD o.length 0+c)=u.getD o.length 0+B*c'):Ms1 B q u v (o++ [d]) c':=by
  refine ⟨a2d h.lt hd,hc',by rw [List.length_append,List.length_singleton];omega,?_⟩
  rw [List.length_append,List.length_singleton,s7,s7,a12,Nat.pow_succ]
  have h1:=h.eq
  have e2:B ^ o.length*d+B ^ o.length*(q*v.getD o.length 0)+B ^ o.length*c=B ^ o.length*u.getD o.length 0+B ^ o.length*(B*c'):=by
    rw [←Nat.mul_add,←Nat.mul_add,←Nat.mul_add];congr 1;omega
  have e3:q*(val B (v.take o.length)+B ^ o.length*v.getD o.length 0)=q*val B (v.take o.length)+B ^ o.length*(q*v.getD o.length 0):=by
    rw [Nat.mul_add];congr 1;rw [←Nat.mul_assoc,Nat.mul_comm q,Nat.mul_assoc]
  rw [e3,Nat.mul_assoc]
  omega
theorem c5o {B q v c u:Nat} (hB:2≤B) (hq:q < B) (hv:v < B) (hc:c≤q+1) (hu:u < B) :
    (u < (q*v+c)%B→(u+B - (q*v+c)%B) < B∧(q*v+c) / B+1≤q+1∧(u+B - (q*v+c)%B)+(q*v+c)=u+B*((q*v+c) / B+1))∧
    (¬u < (q*v+c)%B→(u - (q*v+c)%B) < B∧(q*v+c) / B≤q+1∧(u - (q*v+c)%B)+(q*v+c)=u+B*((q*v+c) / B)):=by
  have e:=Nat.div_add_mod (q*v+c) B
  have hm:=Nat.mod_lt (q*v+c) (show 0 < B by omega)
  have hdiv:(q*v+c) / B≤q:=by
    have h1:q*v+c < B*(q+1):=by
      have:q*v≤q*(B - 1):=Nat.mul_le_mul_left _ (by omega)
      have h2:q*(B - 1)+q=q*B:=by rw [←Nat.mul_succ];congr 1;omega
      have h3:B*(q+1)=q*B+B:=by rw [Nat.mul_add,Nat.mul_comm];omega
      by_cases hb:B=2
      · have:q≤1:=by omega
        omega
      · omega
    have:=Nat.div_lt_of_lt_mul h1
    omega
  refine ⟨fun h=>⟨by omega,by omega,?_⟩,fun h=>⟨by omega,by omega,?_⟩⟩
  · rw [Nat.mul_add];omega
  · omega
section
variable {B n q V W c ut N:Nat}
theorem d6q {Wl:Nat} (hW:W=Wl+B ^ n*ut) (eN:N+q*V=Wl+B ^ n*c) (hG:W < (q+1)*V) (hV:V < B ^ n) (h:c≤ut):q=W / V∧N=W%V∧ut - c=0:=by
  have h1:N+B ^ n*(ut - c)+q*V=W:=by
    have:B ^ n*ut=B ^ n*(ut - c)+B ^ n*c:=by rw [←Nat.mul_add];congr 1;omega
    omega
  rw [Nat.add_mul,Nat.one_mul] at hG
  have h2:ut - c=0:=by
    rcases Nat.eq_zero_or_pos (ut - c) with e|e
    · exact e
    · have:B ^ n*1≤B ^ n*(ut - c):=Nat.mul_le_mul_left _ e
      omega
  rw [h2,Nat.mul_zero,Nat.add_zero] at h1
  have hNV:N < V:=by omega
  have hVp:0 < V:=by omega
  refine ⟨?_,?_,h2⟩
  · rw [←h1,Nat.add_mul_div_right _ _ hVp,Nat.div_eq_of_lt hNV];omega
  · rw [←h1,Nat.add_mul_mod_self_right,Nat.mod_eq_of_lt hNV]
theorem c62 {Wl E c':Nat} (hW:W=Wl+B ^ n*ut) (eN:N+q*V=Wl+B ^ n*c) (hN:N < B ^ n) (hE:E < B ^ n) (hl:q*V≤W+V) (hV:V < B ^ n) (hVp:0 < V) (h:ut < c) (eE:E+B ^ n*c'=N+V):q - 1=W / V∧E=W%V∧c'=c - ut∧1≤q:=by
  have h1:N+q*V=W+B ^ n*(c - ut):=by
    have:B ^ n*c=B ^ n*(c - ut)+B ^ n*ut:=by rw [←Nat.mul_add];congr 1;omega
    omega
  have h0:B ^ n*1≤B ^ n*(c - ut):=Nat.mul_le_mul_left _ (by omega)
  have hq:1≤q:=by
    rcases Nat.eq_zero_or_pos q with e|e
    · rw [e,Nat.zero_mul] at h1;omega
    · exact e
  obtain ⟨q,rfl⟩:∃q',q=q'+1:=⟨q - 1,by omega⟩
  rw [Nat.add_mul,Nat.one_mul] at hl h1
  obtain ⟨R,hR⟩:∃R,W=q*V+R:=⟨W - q*V,by omega⟩
  have hRV:R < V:=by omega
  have h2:E+B ^ n*c'=R+B ^ n*(c - ut):=by omega
  have hRn:R < B ^ n:=by omega
  have hp:0 < B ^ n:=by omega
  have h3:c'=c - ut:=by
    have a:=congrArg (· / B ^ n) h2
    simp only [Nat.add_mul_div_left _ _ hp,Nat.div_eq_of_lt hE,Nat.div_eq_of_lt hRn] at a
    omega
  have h4:E=R:=by rw [h3] at h2;omega
  refine ⟨?_,?_,h3,by omega⟩
  · rw [hR,Nat.mul_comm,Nat.mul_add_div hVp,Nat.div_eq_of_lt hRV];omega
  · rw [hR,Nat.mul_comm,Nat.mul_add_mod,Nat.mod_eq_of_lt hRV,h4]
end
theorem d2c {B n m:Nat} (hB:2≤B) (h1:B ^ n≤m) (h2:m < B ^ (n+1)):(f7 B m).length=n+1:=by
  have a:=a3d hB h2
  have b:=b4w (n:=m) hB
  rcases Nat.lt_or_ge (f7 B m).length (n+1) with h|h
  · have:B ^ (f7 B m).length≤B ^ n:=Nat.pow_le_pow_right (by omega) (by omega)
    omega
  · omega
theorem d6r {B:Nat} {b:List Nat} {n:Nat} (hB:2≤B) (hn:b.length=n+1) (hb:Dig B b) :
    1≤B / (b.getD n 0+1)∧B / (b.getD n 0+1) < B∧val B b*(B / (b.getD n 0+1)) < B ^ (n+1)∧B ^ n*(B / (b.getD n 0+1))≤val B b*(B / (b.getD n 0+1))∧B ^ n≤val B b:=by
  have ht:=r5 (by omega) hb.lt n
  have htp:0 < b.getD n 0:=by
    have h:=hb.last
    rw [List.getLast?_eq_getElem?,hn,Nat.add_sub_cancel] at h
    rw [List.getD_eq_getElem?_getD]
    have hlt:n < b.length:=by omega
    rw [List.getElem?_eq_getElem hlt] at h ⊢
    simp only [ne_eq,Option.some.injEq,Option.getD_some] at h ⊢
    omega
  have hv:=a7g (B:=B) hn
  have hlow:val B (b.take n) < B ^ n:=by
    have:=a03 B (b.take n) (fun d hd=>hb.lt d (List.mem_of_mem_take hd))
    rwa [List.length_take,Nat.min_eq_left (by omega)] at this
  generalize b.getD n 0=t at *
  have h1:1≤B / (t+1):=(Nat.le_div_iff_mul_le (by omega)).2 (by omega)
  have h2:B / (t+1) < B:=Nat.div_lt_self (by omega) (by omega)
  have h3:B / (t+1)*(t+1)≤B:=Nat.div_mul_le_self _ _
  have h4:B ^ n≤val B b:=by
    rw [hv]
    have:1*B ^ n≤t*B ^ n:=Nat.mul_le_mul_right _ htp
    omega
  refine ⟨h1,h2,?_,?_,h4⟩
  · have h5:val B b < (t+1)*B ^ n:=by rw [hv,Nat.add_mul];omega
    have h6:val B b*(B / (t+1)) < (t+1)*B ^ n*(B / (t+1)):=Nat.mul_lt_mul_of_pos_right h5 (by omega)
    have h7:(t+1)*B ^ n*(B / (t+1))≤B*B ^ n:=by
      rw [Nat.mul_comm,←Nat.mul_assoc]
      exact Nat.mul_le_mul_right _ h3
    rw [Nat.pow_succ,Nat.mul_comm (B ^ n) B]
    omega
  · exact Nat.mul_le_mul_right _ h4
theorem d6s {B A f V lb la:Nat} {u:List Nat} (hB:2≤B) (hf:1≤f) (hA:A < B ^ la) (hV:B ^ (lb+1)*f≤V) (hu:∀d∈u,d < B) (hul:u.length=la+1) (huv:val B u=A*f) (hn:lb+2≤la) :
    b0u B (A*f) V (lb+2) u (List.replicate (la+1 - (lb+2)) 0) (la+1 - (lb+2)):=by
  refine ⟨hu,fun d hd=>by rw [(List.mem_replicate.1 hd).2];omega,by omega,by simp,by rw [a31];omega,?_,fun i _=>?_⟩
  · have h1:A*f < B ^ la*f:=Nat.mul_lt_mul_of_pos_right hA hf
    have h2:B ^ (lb+1)*f*B ^ (la+1 - (lb+2))≤V*B ^ (la+1 - (lb+2)):=Nat.mul_le_mul_right _ hV
    have h3:B ^ (lb+1)*f*B ^ (la+1 - (lb+2))=B ^ la*f:=by
      rw [Nat.mul_assoc,Nat.mul_comm f,←Nat.mul_assoc,←Nat.pow_add];congr 2;omega
    omega
  · simp [List.getD_eq_getElem?_getD,List.getElem?_replicate];split <;> rfl
-- axioms of d95
-- axioms of c62
end Go.Ax
end
section
namespace Go.Ax
def isD (l:List UInt8):Prop:=∀b∈l,48≤b.toNat∧b.toNat≤57
instance (l:List UInt8):Decidable (isD l):=by unfold isD;infer_instance
def n6 (l:List UInt8):Nat:=l.foldl (fun a b=>a*10+(b.toNat - 48)) 0
theorem c3t:isD []:=fun _ h=>by cases h
theorem b1f {b:UInt8} {l:List UInt8}:isD (b :: l)↔(48≤b.toNat∧b.toNat≤57)∧isD l:=by
  unfold isD;exact List.forall_mem_cons
theorem b0b {a b:List UInt8}:isD (a++b)↔isD a∧isD b:=by
  unfold isD
  exact List.forall_mem_append
theorem b45 {l:List UInt8} (h:isD l) (n:Nat):isD (l.take n):=fun b hb=>h b (List.mem_of_mem_take hb)
theorem c6k {l:List UInt8} (h:isD l) (n:Nat):isD (l.drop n):=fun b hb=>h b (List.mem_of_mem_drop hb)
theorem d92 (l:List UInt8):∀a,l.foldl (fun a b=>a*10+(b.toNat - 48)) a=a*10 ^ l.length+n6 l:=by
  induction l with
  | nil=>intro a;simp [n6]
  | cons b l ih =>
    intro a
    have e:n6 (b :: l)=(0*10+(b.toNat - 48))*10 ^ l.length+n6 l:=ih _
    rw [List.foldl_cons,ih,e,List.length_cons,Nat.pow_succ,Nat.zero_mul,Nat.zero_add,Nat.add_mul,Nat.add_assoc,Nat.mul_assoc,Nat.mul_comm 10]
theorem c0w:n6 []=0:=rfl
theorem a5z (a b:List UInt8):n6 (a++b)=n6 a*10 ^ b.length+n6 b:=by
  rw [n6,List.foldl_append,d92];rfl
theorem a9q (b:UInt8) (l:List UInt8):n6 (b :: l)=(b.toNat - 48)*10 ^ l.length+n6 l:=by
  rw [n6,List.foldl_cons,d92,Nat.zero_mul,Nat.zero_add]
theorem a6l {l:List UInt8} (h:isD l):n6 l < 10 ^ l.length:=by
  induction l with
  | nil=>simp [n6]
  | cons b l ih =>
    have h':=b1f.1 h
    have:=ih h'.2
    rw [a9q,List.length_cons,Nat.pow_succ]
    have h1:(b.toNat - 48)*10 ^ l.length≤9*10 ^ l.length:=Nat.mul_le_mul_right _ (by omega)
    omega
theorem c9s (l:List UInt8) (n:Nat):n6 l=n6 (l.take n)*10 ^ (l.length - n)+n6 (l.drop n):=by
  conv=>lhs;rw [←List.take_append_drop n l]
  rw [a5z,List.length_drop]
theorem c58 {b:UInt8} (h:48≤b.toNat∧b.toNat≤57):Lib.digitVal b=some (b.toNat - 48):=by
  rw [Lib.digitVal,if_pos h]
theorem c56 {l:List UInt8} (h:isD l):∀a,Lib.decFrom a l=some (a*10 ^ l.length+n6 l):=by
  induction l with
  | nil=>intro a;simp [Lib.decFrom,n6]
  | cons b l ih =>
    intro a
    have h':=b1f.1 h
    rw [Lib.decFrom,c58 h'.1]
    dsimp only
    rw [ih h'.2,a9q,List.length_cons,Nat.pow_succ,Nat.add_mul,Nat.add_assoc,Nat.mul_assoc,Nat.mul_comm 10]
theorem d4a {l:List UInt8} (h:isD l) (h0:l≠[]):Lib.atoi l=some (n6 l:Int):=by
  cases l with
  | nil=>exact absurd rfl h0
  | cons b l =>
    have h':=(b1f.1 h).1
    rw [Lib.atoi]
    have e1:(b == 45)=false:=by
      rw [beq_eq_false_iff_ne];rintro rfl;simp at h'
    have e2:(b == 43)=false:=by
      rw [beq_eq_false_iff_ne];rintro rfl;simp at h'
    rw [e1,e2]
    simp only [Bool.false_eq_true,if_false]
    rw [Lib.decNat,List.isEmpty_cons,c56 h]
    simp
theorem a5m (l:List UInt8) (c:UInt8):Lib.hasPrefix l [c]=decide (l.head?=some c):=by
  cases l with
  | nil=>rfl
  | cons b l =>
    simp only [Lib.hasPrefix,List.isPrefixOf,Bool.and_true,List.head?_cons,Option.some.injEq]
    by_cases h:b=c
    · subst h;simp
    · simp [h,Ne.symm h]
theorem c6l {l:List UInt8} (h:isD l):l.head?≠some 45:=by
  cases l with
  | nil=>simp
  | cons b l =>
    have h':=(b1f.1 h).1
    simp only [List.head?_cons,ne_eq,Option.some.injEq]
    rintro rfl
    simp at h'
theorem b2y {l:List UInt8} (h:isD l):Lib.hasPrefix l [45]=false:=by
  rw [a5m];exact decide_eq_false (c6l h)
theorem b1x {l:List UInt8} (h:isD l):Lib.trimPrefix l [45]=l:=by
  rw [Lib.trimPrefix,b2y h];rfl
theorem b2z (l:List UInt8):Lib.hasPrefix (45 :: l) [45]=true:=by rw [a5m];rfl
theorem a4w (l:List UInt8):Lib.trimPrefix (45 :: l) [45]=l:=by
  rw [Lib.trimPrefix,b2z];rfl
theorem a0x {u:Nat} (h:u < 10):Lib.decDigits u= [UInt8.ofNat (48+u)]:=by
  rw [Lib.decDigits,dif_pos h]
theorem a3c {u:Nat} (h:10≤u):Lib.decDigits u=Lib.decDigits (u / 10)++ [UInt8.ofNat (48+u%10)]:=by
  rw [Lib.decDigits,dif_neg (by omega)]
theorem a9j {d:Nat} (h:d < 10):(UInt8.ofNat (48+d)).toNat=48+d:=by
  rw [UInt8.toNat_ofNat']
  omega
theorem a1x (u:Nat):isD (Lib.decDigits u):=by
  induction u using Nat.strongRecOn with
  | _ u ih =>
    by_cases h:u < 10
    · rw [a0x h]
      intro b hb
      rw [List.mem_singleton] at hb
      rw [hb,a9j h];omega
    · rw [a3c (by omega)]
      refine b0b.2 ⟨ih _ (by omega),fun b hb=>?_⟩
      rw [List.mem_singleton] at hb
      rw [hb,a9j (Nat.mod_lt _ (by omega))];omega
theorem c7n {d:Nat} (h:d < 10):n6 [UInt8.ofNat (48+d)]=d:=by
  rw [a9q,a9j h,c0w];simp
theorem a3y (u:Nat):n6 (Lib.decDigits u)=u:=by
  induction u using Nat.strongRecOn with
  | _ u ih =>
    by_cases h:u < 10
    · rw [a0x h,c7n h]
    · rw [a3c (by omega),a5z,ih _ (by omega),c7n (Nat.mod_lt _ (by omega))]
      simp only [List.length_singleton,Nat.pow_one]
      omega
theorem a63 (u:Nat):Lib.decDigits u≠[]:=by
  by_cases h:u < 10
  · rw [a0x h];simp
  · rw [a3c (by omega)];simp
theorem d5t {u:Nat} (h:0 < u):(Lib.decDigits u).head?≠some 48:=by
  induction u using Nat.strongRecOn with
  | _ u ih =>
    by_cases h1:u < 10
    · rw [a0x h1]
      simp only [List.head?_cons,ne_eq,Option.some.injEq]
      intro e
      have:=congrArg UInt8.toNat e
      rw [a9j h1] at this
      simp at this
      omega
    · have h2:=ih (u / 10) (by omega) (by omega)
      have h3:=a63 (u / 10)
      rw [a3c (by omega)]
      cases hd:Lib.decDigits (u / 10) with
      | nil=>exact absurd hd h3
      | cons x l=>rw [hd] at h2;exact h2
def a09 (k u:Nat):List UInt8:=List.replicate (k - (Lib.decDigits u).length) 48++Lib.decDigits u
theorem c63 (c:UInt8) (n:Nat):Lib.repeatL [c] n=List.replicate n c:=by
  induction n with
  | zero=>rfl
  | succ n ih=>rw [Lib.repeatL,ih];rfl
theorem b09 (u:Nat):0 < (Lib.decDigits u).length:=List.length_pos_iff.2 (a63 u)
theorem a0p {u k:Nat} (h:u < 10 ^ k) (hk:0 < k):(Lib.decDigits u).length≤k:=by
  induction k generalizing u with
  | zero=>omega
  | succ k ih =>
    by_cases h1:u < 10
    · rw [a0x h1];simp
    · rw [a3c (by omega),List.length_append,List.length_singleton]
      have:0 < k:=by
        rcases Nat.eq_zero_or_pos k with rfl|h2
        · simp at h;omega
        · exact h2
      have:=ih (u:=u / 10) (by rw [Nat.pow_succ] at h;omega) this
      omega
theorem a5b {u k:Nat} (h:(Lib.decDigits u).length≤k):u < 10 ^ k:=by
  have:=a6l (a1x u)
  rw [a3y] at this
  exact Nat.lt_of_lt_of_le this (Nat.pow_le_pow_right (by omega) h)
theorem c57 {k u:Nat} (hk:0 < k):a09 (k+1) u=a09 k (u / 10)++ [UInt8.ofNat (48+u%10)]:=by
  unfold a09
  by_cases h:u < 10
  · have e0:u / 10=0:=by omega
    have e1:u%10=u:=by omega
    rw [e0,e1,a0x h,a0x (by omega:0 < 10)]
    simp only [List.length_singleton,Nat.add_sub_cancel]
    obtain ⟨j,rfl⟩:∃j,k=j+1:=⟨k - 1,by omega⟩
    rw [Nat.add_sub_cancel,List.replicate_succ']
    rfl
  · rw [a3c (u:=u) (by omega),List.length_append,List.length_singleton,←List.append_assoc,Nat.add_sub_add_right]
theorem b2w {k q:Nat} (hq:0 < q) (hk:0 < k):∀r,r < 10 ^ k→Lib.decDigits (q*10 ^ k+r)=Lib.decDigits q++a09 k r:=by
  obtain ⟨j,rfl⟩:∃j,k=j+1:=⟨k - 1,by omega⟩
  clear hk
  induction j with
  | zero =>
    intro r hr
    simp only [Nat.zero_add,Nat.pow_one] at hr ⊢
    rw [a3c (by omega),show (q*10+r) / 10=q by omega,show (q*10+r)%10=r by omega]
    unfold a09
    rw [a0x hr];rfl
  | succ j ih =>
    intro r hr
    rw [Nat.pow_succ] at hr ⊢
    have e:q*(10 ^ (j+1)*10)=(q*10 ^ (j+1))*10:=by rw [Nat.mul_assoc]
    have hp:0 < 10 ^ (j+1):=Nat.pow_pos (by omega)
    have h0:0 < q*10 ^ (j+1):=Nat.mul_pos hq hp
    rw [e,a3c (by omega),show (q*10 ^ (j+1)*10+r) / 10=q*10 ^ (j+1)+r / 10 by omega,show (q*10 ^ (j+1)*10+r)%10=r%10 by omega,
      ih (r / 10) (by omega),List.append_assoc,←c57 (by omega)]
theorem e1f {l:List UInt8} (h:isD l) (h0:l≠[]) (h1:l= [48]∨l.head?≠some 48):Lib.decDigits (n6 l)=l:=by
  have key:∀n,∀l:List UInt8,l.length=n→isD l→l≠[]→(l= [48]∨l.head?≠some 48)→Lib.decDigits (n6 l)=l:=by
    intro n
    induction n with
    | zero=>intro l hl _ h0 _;exact absurd (List.length_eq_zero_iff.1 hl) h0
    | succ n ih =>
      intro l hl h h0 h1
      obtain ⟨a,b,rfl⟩:∃a b,l=a++ [b]:=⟨l.dropLast,l.getLast h0,(List.dropLast_concat_getLast h0).symm⟩
      have hb:=(b0b.1 h)
      have hb2:=hb.2 b (List.mem_singleton.2 rfl)
      have eb:UInt8.ofNat (48+(b.toNat - 48))=b:=by
        apply UInt8.toNat_inj.1
        rw [a9j (by omega)];omega
      have v1:n6 [b]=b.toNat - 48:=by rw [a9q,c0w];simp
      rw [a5z,v1,List.length_singleton,Nat.pow_one]
      cases a with
      | nil =>
        rw [c0w,Nat.zero_mul,Nat.zero_add,a0x (by omega),eb];rfl
      | cons c a =>
        have hc:c≠48:=by
          rcases h1 with h1|h1
          · have:=congrArg List.length h1;simp at this
          · simpa using h1
        have h2:=ih (c :: a) (by simp at hl ⊢;omega) hb.1 (by simp) (.inr (by simpa using hc))
        have hv:0 < n6 (c :: a):=by
          have hc1:=(b1f.1 hb.1).1
          have:c.toNat≠48:=fun e=>hc (UInt8.toNat_inj.1 e)
          rw [a9q]
          have:0 < (c.toNat - 48)*10 ^ a.length:=Nat.mul_pos (by omega) (Nat.pow_pos (by omega))
          omega
        rw [a3c (by omega),show (n6 (c :: a)*10+(b.toNat - 48)) / 10=n6 (c :: a) by omega,show (n6 (c :: a)*10+(b.toNat - 48))%10=b.toNat - 48 by omega,h2,eb]
  exact key _ l rfl h h0 h1
theorem d2b (l:List UInt8) (c:UInt8):c∉l∨∃a b,l=a++c :: b∧c∉a:=by
  induction l with
  | nil=>exact .inl (by simp)
  | cons x l ih =>
    by_cases h:x=c
    · exact .inr ⟨[],l,by rw [h];rfl,by simp⟩
    · rcases ih with ih|⟨a,b,rfl,ha⟩
      · exact .inl (by simp [ih,Ne.symm h])
      · exact .inr ⟨x :: a,b,rfl,by simp [ha,Ne.symm h]⟩
theorem c8l {l:List UInt8} {c:UInt8} (h:c∉l):Lib.indexByte l c= -1:=by
  induction l with
  | nil=>rfl
  | cons x l ih =>
    rw [List.mem_cons,not_or] at h
    rw [Lib.indexByte,ih h.2,if_neg (by simp [Ne.symm h.1])];rfl
theorem d2i {a b:List UInt8} {c:UInt8} (h:c∉a):Lib.indexByte (a++c :: b) c=a.length:=by
  induction a with
  | nil=>simp [Lib.indexByte]
  | cons x a ih =>
    rw [List.mem_cons,not_or] at h
    rw [List.cons_append,Lib.indexByte,ih h.2,if_neg (by simp [Ne.symm h.1]),if_neg (by simp)]
    simp
end Go.Ax
end
section
namespace Go.Ax
def rz (q:Rat):Nat:=max (zl q.num) (zl q.den)
theorem a4t (q:Rat):zl q.num≤rz q:=Nat.le_max_left _ _
theorem a5e (q:Rat):zl q.den≤rz q:=Nat.le_max_right _ _
theorem b6l (n d:Int) (hd:d≠0):(Rat.divInt n d).num.natAbs≤n.natAbs∧(Rat.divInt n d).den≤d.natAbs:=by
  rw [Rat.num_divInt,Rat.den_divInt,if_neg hd]
  refine ⟨?_,Nat.div_le_self _ _⟩
  have h1:(d.sign*n).natAbs≤n.natAbs:=by
    rw [Int.natAbs_mul]
    have:d.sign.natAbs≤1:=by
      rcases Int.lt_trichotomy d 0 with h|h|h
      · rw [Int.sign_eq_neg_one_of_neg h];decide
      · subst h;decide
      · rw [Int.sign_eq_one_of_pos h];decide
    have:=Nat.mul_le_mul_right n.natAbs this
    omega
  have hdvd:((d.gcd n:Nat):Int)∣d.sign*n:=Int.dvd_mul_of_dvd_right (Int.gcd_dvd_right _ _)
  obtain ⟨c,hc⟩:=hdvd
  have hg:(d.gcd n:Int)≠0:=by
    intro e
    have:d.gcd n=0:=by omega
    rw [Int.gcd_eq_zero_iff] at this
    exact hd this.1
  rw [hc,Int.mul_ediv_cancel_left _ hg]
  rw [hc,Int.natAbs_mul] at h1
  have:1≤((d.gcd n:Nat):Int).natAbs:=by omega
  have:=Nat.mul_le_mul_right c.natAbs this
  omega
theorem c2e (n d:Int) (hd:d≠0):rz (Rat.divInt n d)≤max (zl n) (zl d):=by
  obtain ⟨h1,h2⟩:=b6l n d hd
  have h3:=a13 h1
  have h4:=a13 (x:=((Rat.divInt n d).den:Int)) (y:=d) (by simpa using h2)
  unfold rz;omega
theorem c7a (n:Int) (d:Nat) (hd:d≠0):rz (mkRat n d)≤max (zl n) (zl d):=by
  have:=c2e n d (by omega)
  rwa [Rat.divInt_ofNat] at this
theorem a5d (a b:Rat):rz (a+b)≤rz a+rz b+1:=by
  rw [Rat.add_def']
  have h:=c7a (a.num*b.den+b.num*a.den) (a.den*b.den) (Nat.mul_ne_zero a.den_nz b.den_nz)
  have h1:=b7q (a.num*b.den) (b.num*a.den)
  have h2:=a2s a.num b.den
  have h3:=a2s b.num a.den
  have h4:=a2s a.den b.den
  have e:zl (((a.den*b.den:Nat):Int))=zl ((a.den:Int)*(b.den:Int)):=by rw [Int.natCast_mul]
  have:=a4t a;have:=a5e a;have:=a4t b;have:=a5e b
  omega
theorem a0q (a b:Rat):rz (a*b)≤rz a+rz b:=by
  rw [Rat.mul_def']
  have h:=c7a (a.num*b.num) (a.den*b.den) (Nat.mul_ne_zero a.den_nz b.den_nz)
  have h2:=a2s a.num b.num
  have h4:=a2s a.den b.den
  have e:zl (((a.den*b.den:Nat):Int))=zl ((a.den:Int)*(b.den:Int)):=by rw [Int.natCast_mul]
  have:=a4t a;have:=a5e a;have:=a4t b;have:=a5e b
  omega
theorem d6z (a:Rat):rz (-a)=rz a:=by unfold rz;rw [Rat.neg_num,Rat.neg_den,a4y]
theorem c4n (a b:Rat):rz (a - b)≤rz a+rz b+1:=by
  rw [Rat.sub_eq_add_neg];have:=a5d a (-b);rwa [d6z] at this
theorem d6y (a:Rat):rz a⁻¹≤rz a+1:=by
  by_cases h:a=0
  · subst h;rw [Rat.inv_zero];omega
  · have h0:a.num≠0:=fun e=>h (Rat.num_eq_zero.1 e)
    rw [Rat.inv_def]
    have:=c2e a.den a.num h0
    have:=a4t a;have:=a5e a
    omega
theorem c6r {n d:Int} (hd:0 < d):n / ((Int.gcd n d:Nat):Int)=(Rat.divInt n d).num:=by
  rw [Rat.num_divInt,Int.sign_eq_one_of_pos hd,Int.one_mul,Int.gcd_comm]
theorem c6q {n d:Int} (hd:0 < d):d / ((Int.gcd n d:Nat):Int)=((Rat.divInt n d).den:Int):=by
  rw [Rat.den_divInt,if_neg (by omega),Int.gcd_comm]
  obtain ⟨b,rfl⟩:=Int.eq_ofNat_of_zero_le (Int.le_of_lt hd)
  rfl
theorem c6a (n:Int):(Rat.divInt n 1).num=n∧(Rat.divInt n 1).den=1:=by
  have h1:=c6r (n:=n) (d:=1) (by decide)
  have h2:=c6q (n:=n) (d:=1) (by decide)
  rw [Int.gcd_one] at h1 h2
  constructor
  · rw [←h1];simp
  · have:((Rat.divInt n 1).den:Int)=1:=by rw [←h2];rfl
    omega
theorem d8n {n d:Int} (hd:0 < d):0 < ((Int.gcd n d:Nat):Int):=by
  have:Int.gcd n d≠0:=by
    intro e
    rw [Int.gcd_eq_zero_iff] at e;omega
  omega
theorem e2e (n:Int) {d:Int} (hd:0 < d):zl ((Int.gcd n d:Nat):Int)≤zl d:=by
  refine a13 ?_
  have h:Int.gcd n d∣d.natAbs:=by
    exact Nat.gcd_dvd_right n.natAbs d.natAbs
  have:=Nat.le_of_dvd (by omega) h
  omega
theorem b9q {q:Rat} (h:q.den=1):((q.num:Int):Rat)=q:=Rat.ext rfl (by rw [Rat.den_intCast,h])
def b3s (a b:Rat):Int:=(a.num*b.den - b.num*a.den).sign
theorem a6n {a b:Rat}:b3s a b=0↔a=b:=by
  unfold b3s
  rw [a9m]
  constructor
  · intro h
    have h1:¬a < b:=by rw [Rat.lt_iff];omega
    have h2:¬b < a:=by rw [Rat.lt_iff];omega
    exact Rat.le_antisymm (Rat.not_lt.1 h2) (Rat.not_lt.1 h1)
  · intro h;subst h;omega
theorem cmpQ_lt {a b:Rat}:b3s a b < 0↔a < b:=by
  unfold b3s
  rw [b5m,Rat.lt_iff];omega
theorem a2a {q:Rat}:q.num.sign=0↔q=0:=by rw [a9m,Rat.num_eq_zero]
theorem a3p {k:IntKind} (ls:List Int):Sub (.one (.row 1 ls.length (fun i=>(ls.map fun x=> [i7.v (.int k x)]).getD i []))) (.one (.ints k ls)):=
  a4v rfl fun i hi=>by simp [List.getD_eq_getElem?_getD,hi]
def u5:List Int→Int
  | []=>0
  | x :: l=>if x=0 then u5 l else x
theorem a4n {l:List Int} {k:Nat} (hk:k < l.length):u5 (l.drop k)=if l.getD k 0=0 then u5 (l.drop (k+1)) else l.getD k 0:=by
  rw [List.drop_eq_getElem_cons hk,u5]
  simp [List.getD_eq_getElem?_getD,hk]
end Go.Ax
end
