/- Lemmas on the program and its library: part Z12. -/
import Derived.KernelRfl
import Derived.Lib.ItoaNum
import Derived.Test.YtoiejgkkcfkliaaGreatDoorProg
import Derived.Test.YtoiejgkkcfkliaaGreatDoorZ11
set_option linter.unusedVariables false
set_option linter.unusedSimpArgs false
section
namespace Go.Ax
def a3u (b:Nat) (ls:List i7):i7→i7
  | .ptr b' sz i o => match Nat.beq b' b with
    | true => match Nat.beq i 0, a1y ls o with
      | true,some r=>.pp r
      | _,_=>.u
    | false=>.ptr b' sz i o
  | .own b' sz i m c => match Nat.beq b' b with
    | true=>.u
    | false=>.own b' sz i m c
  | .gr b' sz m c => match Nat.beq b' b with
    | true=>.u
    | false=>.gr b' sz m c
  | .fn f xs ys=>.fn f (frzLs b ls xs) (frzLs b ls ys)
  | l=>l
where frzLs (b:Nat) (ls:List i7):List i7→List i7
  | []=> []
  | l :: r=>a3u b ls l :: frzLs b ls r
mutual
def frz (b:Nat) (ls:List i7):AV→AV
  | .one l=>.one (a3u b ls l)
  | .agg xs=>.agg (a3u.frzLs b ls xs)
  | .tup xs=>.tup (b6s b ls xs)
  | .u=>.u
def b6s (b:Nat) (ls:List i7):List AV→List AV
  | []=> []
  | x :: xs=>frz b ls x :: b6s b ls xs
end
def a55 (b:Nat) (ls:List i7) (bx:Box):Box:={ bx with g:=fun i=>a3u.frzLs b ls (bx.g i) }
def b6u (h:Nat→Option Box) (b:Nat) (ls:List i7) (x:Nat):Option Box:=match Nat.beq x b with
  | true=>none
  | false=>(h x).map (a55 b ls)
section
variable {E:u6} {w:World} {b kb:Nat} {ls:List i7} {es:List Value}
theorem a2h:a1h 0 E (E.drop b) w:=⟨fun _ _ h=>absurd h (Nat.not_lt_zero _),fun _ h=>a6h h⟩
mutual
theorem d5z (hb:E.ρ b=some kb) (hok:(E.drop b).ok w kb) (hls:j7 (E.drop b).shut w ls es) (hr:w.rangeAt kb 0 es):∀{l:i7} {cs:List Value},l.R E w cs→(a3u b ls l).R (E.drop b) w cs
  | .ptr b' sz i o, cs, h => by
    obtain ⟨j,h1,rfl⟩:=h
    simp only [a3u]
    split
    · rename_i e
      have e:=Nat.eq_of_beq_eq_true e
      subst e
      rw [hb] at h1;cases h1
      split
      · rename_i r hi hd
        have hi:=Nat.eq_of_beq_eq_true hi
        subst hi
        refine ⟨kb,o,es.drop o,by simp,hok,a96 hls hd,?_⟩
        intro d v hv
        rw [List.getElem?_drop] at hv
        have:=hr _ _ hv
        rwa [Nat.zero_add] at this
      · exact ⟨_,rfl,rfl⟩
    · rename_i e;exact ⟨j,by simp [u6.drop,a4e e,h1],rfl⟩
  | .own b' sz i m c, cs, h => by
    obtain ⟨j,h1,rfl⟩:=h
    simp only [a3u]
    split
    · exact ⟨_,rfl,rfl⟩
    · rename_i e;exact ⟨j,by simp [u6.drop,a4e e,h1],rfl⟩
  | .gr b' sz m c, cs, h => by
    simp only [a3u]
    split
    · rcases h with ⟨rfl,rfl,rfl⟩|⟨j,h1,rfl⟩<;> exact ⟨_,rfl,rfl⟩
    · rename_i e
      rcases h with h|⟨j,h1,rfl⟩
      · exact .inl h
      · exact .inr ⟨j,by simp [u6.drop,a4e e,h1],rfl⟩
  | .fn f a c, cs, h => by
    obtain ⟨xs,ys,rfl,h1,h2⟩:=h
    exact ⟨xs,ys,rfl,b41 hb hok hls hr h1,b41 hb hok hls hr h2⟩
  | .v x,cs,h=>(a2h (b:=b)).leaf (l:=.v x) trivial h
  | .u,cs,h=>(a2h (b:=b)).leaf (l:=.u) trivial h
  | .pp x,cs,h=>(a2h (b:=b)).leaf (l:=.pp x) trivial h
  | .int z,cs,h=>(a2h (b:=b)).leaf (l:=.int z) trivial h
  | .frac q,cs,h=>(a2h (b:=b)).leaf (l:=.frac q) trivial h
  | .rint z,cs,h=>(a2h (b:=b)).leaf (l:=.rint z) trivial h
  | .ints k l,cs,h=>(a2h (b:=b)).leaf (l:=.ints k l) trivial h
  | .nn k l,cs,h=>(a2h (b:=b)).leaf (l:=.nn k l) trivial h
  | .row sz n g,cs,h=>(a2h (b:=b)).leaf (l:=.row sz n g) trivial h
theorem b41 (hb:E.ρ b=some kb) (hok:(E.drop b).ok w kb) (hls:j7 (E.drop b).shut w ls es) (hr:w.rangeAt kb 0 es):∀{xs:List i7} {cs:List Value},j7 E w xs cs→j7 (E.drop b) w (a3u.frzLs b ls xs) cs
  | [],_,h=>h
  | _ :: _,_,h=>by obtain ⟨xs,ys,a,c,d⟩:=h;exact ⟨xs,ys,a,d5z hb hok hls hr c,b41 hb hok hls hr d⟩
end
theorem c1z (l:i7):(a3u b ls l).size=l.size:=by
  cases l <;> simp only [a3u] <;> (repeat' split) <;> rfl
theorem c2h:∀(xs:List i7),s8 (a3u.frzLs b ls xs)=s8 xs
  | []=>rfl
  | l :: xs=>by simp only [a3u.frzLs,s8,c1z,c2h xs]
mutual
theorem d94 (hb:E.ρ b=some kb) (hok:(E.drop b).ok w kb) (hls:j7 (E.drop b).shut w ls es) (hr:w.rangeAt kb 0 es):∀{x:AV} {v:Value},RV E w x v→RV (E.drop b) w (frz b ls x) v
  | .one _,_,h=>⟨by rw [c1z];exact h.1,d5z hb hok hls hr h.2⟩
  | .agg _,_,h=>by obtain ⟨cs,a,c⟩:=h;exact ⟨cs,a,b41 hb hok hls hr c⟩
  | .tup _,_,h=>by obtain ⟨vs,a,c⟩:=h;exact ⟨vs,a,d50 hb hok hls hr c⟩
  | .u,_,_=>trivial
theorem d50 (hb:E.ρ b=some kb) (hok:(E.drop b).ok w kb) (hls:j7 (E.drop b).shut w ls es) (hr:w.rangeAt kb 0 es):∀{xs:List AV} {vs:List Value},RVs E w xs vs→RVs (E.drop b) w (b6s b ls xs) vs
  | [],_,h=>h
  | _ :: _,_,h=>by obtain ⟨v,r,a,c,d⟩:=h;exact ⟨v,r,a,d94 hb hok hls hr c,d50 hb hok hls hr d⟩
end
end
variable {c:Ctx} {Q:Exit→St→Prop} {st:St}
theorem c6b (hc:a0d c) {b kb:Nat} (hb0:c.nb0≤b) {E:u6} {a:Act} {w:World} (s:SR c st E a w) (h1:E.ρ b=some kb):(E.drop b).ok w kb:=by
  have hown:=s.own b kb (Nat.le_trans hc.ns hb0) h1
  refine ⟨s.env.r _ _ h1,fun hM=>?_,fun x hx=>?_⟩
  · have hM:E.M kb:=hM
    rw [s.m] at hM
    have:=hc.m kb hM
    rcases hown with hown|hown
    · omega
    · exact hown.2 hM
  · by_cases e:x=b
    · simp [u6.drop,e] at hx
    · simp [u6.drop,e] at hx;exact e (s.env.inj _ _ _ hx h1)
theorem d0a (_hc:a0d c) {b:Nat} (hb0:c.nb0≤b) {E:u6} {a:Act} {w:World} (s:SR c st E a w) {st':St} (ht:∀m,RV (E.drop b) w (st'.t m) (a.tmps.getD m undef)) (hh:∀x bx,st'.h x=some bx→a6f (E.drop b) w x bx) (hn:st'.nb=st.nb):SR c st' (E.drop b) a w:=by
  refine ⟨s.size,s.defers,ht,hh,⟨s.env.m,fun x j hj=>?_,fun x y j hx hy=>?_⟩,s.below,fun x j hx0 hj=>?_,fun x hx=>?_,s.m,fun x hx=>?_⟩
  · by_cases e:x=b
    · simp [u6.drop,e] at hj
    · simp [u6.drop,e] at hj;exact s.env.r _ _ hj
  · by_cases e:x=b
    · simp [u6.drop,e] at hx
    · by_cases e':y=b
      · simp [u6.drop,e'] at hy
      · simp [u6.drop,e] at hx;simp [u6.drop,e'] at hy;exact s.env.inj _ _ _ hx hy
  · by_cases e:x=b
    · simp [u6.drop,e] at hj
    · simp [u6.drop,e] at hj;exact s.own x j hx0 hj
  · have:x≠b:=by omega
    simp [u6.drop,this,s.low x hx]
  · have hx:st'.nb≤x:=hx
    by_cases e:x=b
    · simp [u6.drop,e]
    · simp [u6.drop,e];exact s.free x (by show st.nb≤x;omega)
theorem a05 {code:Code} (hc:a0d c) (b:Nat) {sz:Nat} {g:Nat→List i7} {ro:Bool} (hbx:Is (st.h b) (some ⟨sz,1,g,ro⟩)) (hcl:clL 0 (g 0)) (hb:Nat.ble c.nb0 b=true)
    (h:Wp c code Q ⟨fun m=>frz b (g 0) (st.t m),b6u st.h b (g 0),st.nb⟩):Wp c code Q st:=by
  intro E a w s
  have hb0:=Nat.le_of_ble_eq_true hb
  rcases s.boxes b _ hbx with ⟨_,q⟩|⟨kb,cs,T,h1,h2,h3,h4⟩
  · cases q
  obtain ⟨es,h5,h6,h7⟩:=h4 0 Nat.zero_lt_one
  have hok:=c6b hc hb0 s h1
  have hls:j7 (E.drop b).shut w (g 0) es:=(a5a (E.drop b) w).leaves hcl (a2h.leaves hcl h6)
  have hr:w.rangeAt kb 0 es:=fun j v hv=>by
    rw [cell_of_row w kb _ cs T (0,0) h2]
    have:=h7 j v hv
    simpa using this
  refine h (E.drop b) a w (d0a hc hb0 s (fun m=>d94 h1 hok hls hr (s.slots m)) (fun x bx' hx=>?_) rfl)
  have hx:b6u st.h b (g 0) x=some bx':=hx
  unfold b6u at hx
  split at hx
  · cases hx
  · rename_i e
    have e:=a4e e
    simp only [Option.map_eq_some_iff] at hx
    obtain ⟨bx1,hx2,rfl⟩:=hx
    rcases s.boxes x bx1 hx2 with g0|⟨kx,cx,Tx,g1,g2,g3,g4⟩
    · exact .inl g0
    refine .inr ⟨kx,cx,Tx,by simp [u6.drop,e,g1],g2,g3,fun i hi=>?_⟩
    obtain ⟨es',g5,g6,g7⟩:=g4 i hi
    exact ⟨es',by simp only [a55,c2h];exact g5,b41 h1 hok hls hr g6,g7⟩
theorem d0f (hc:a0d c) (b s n cc sz:Nat) (g:Nat→List i7) (l:List (Nat×AV)) (hs:List (Nat×Box)) (nb:Nat)
    (hb:Nat.ble c.nb0 b=true) (hcc:n≤cc) (hcl:∀i,i < n→clL 0 (g i)) (hl:∀p∈l,p.1≠s∧a79 b p.2=p.2) (hh:∀p∈hs,p.1≠b∧a1v b p.2=p.2)
    {E:u6} {a:Act} {w:World} (sr:SR c (n5 ((s,.one (.gr b sz n cc)) :: l) ((b,⟨sz,cc,g,true⟩) :: hs) nb) E a w):SR c (n5 ((s,.one (.row sz n g)) :: l) hs nb) (E.drop b) a w:=by
  have hb0:=Nat.le_of_ble_eq_true hb
  have hkill:∀{x:AV} {v:Value},RV E w x v→RV (E.drop b) w (a79 b x) v:=fun {x v} hx=>by
    have hk:a0s (E.hide b) w (E.drop b) w:=⟨fun x k h=>h,fun k h=>a6h (b44.1 h),fun _ _=>rfl⟩
    exact hk.rv (c8n hx)
  have hkills:∀{xs:List i7} {cs:List Value},j7 E w xs cs→j7 (E.drop b) w (xs.map (a2y b)) cs:=fun {xs cs} hx=>by
    have hk:a0s (E.hide b) w (E.drop b) w:=⟨fun x k h=>h,fun k h=>a6h (b44.1 h),fun _ _=>rfl⟩
    exact hk.leaves (b46 hx)
  have hslot:∀m,m≠s→∀v,RV E w (slots l m) v→RV (E.drop b) w (slots l m) v:=by
    intro m _ v hv
    have e:a79 b (slots l m)=slots l m:=by
      clear hv sr
      induction l with
      | nil=>rfl
      | cons p l ih =>
        simp only [slots,a6d]
        split
        · exact (hl p (by simp)).2
        · exact ih fun q hq=>hl q (by simp [hq])
    rw [←e];exact hkill hv
  have hbox:∀x bx,boxes hs x=some bx→x≠b∧a1v b bx=bx:=by
    intro x bx hx
    clear sr
    induction hs with
    | nil=>cases hx
    | cons p r ih =>
      simp only [boxes,a5t] at hx
      split at hx
      · rename_i e
        cases hx
        rw [Nat.eq_of_beq_eq_true e]
        exact hh p (by simp)
      · exact ih (fun q hq=>hh q (by simp [hq])) hx
  refine d0a hc hb0 sr (fun m=>?_) (fun x bx hx=>?_) rfl
  · have hm:=sr.slots m
    simp only [n5,slots,a6d] at hm ⊢
    cases e:Nat.beq m s with
    | true =>
      rw [e] at hm
      obtain ⟨_,hm⟩:=hm
      refine ⟨rfl,?_⟩
      rcases hm with ⟨rfl,rfl,hm⟩|⟨k,h1,hm⟩
      · exact .inl ⟨rfl,hm⟩
      · refine .inr ⟨k,0,cc,hm,c6b hc hb0 sr h1,hcc,fun i hi=>?_⟩
        rcases sr.boxes b ⟨sz,cc,g,true⟩ (by simp [n5,boxes,a5t]) with ⟨_,q⟩|⟨kb,cs,T,g1,g2,g3,g4⟩
        · have q:cc=0:=q
          omega
        rw [h1] at g1;cases g1
        obtain ⟨es,q1,q2,q3⟩:=g4 i (by show i < cc;omega)
        refine ⟨es,q1,(a5a (E.drop b) w).leaves (hcl i hi) (a2h.leaves (hcl i hi) q2),fun j v hv=>?_⟩
        rw [Nat.zero_add,cell_of_row w k _ cs T (0,0) g2]
        exact q3 j v hv
    | false =>
      rw [e] at hm
      exact hslot m (a4e e) _ hm
  · have hx:boxes hs x=some bx:=hx
    obtain ⟨e,hkb⟩:=hbox x bx hx
    have hx':(n5 ((s,.one (.gr b sz n cc)) :: l) ((b,⟨sz,cc,g,true⟩) :: hs) nb).h x=some bx:=by
      simp only [n5,boxes,a5t]
      cases e1:Nat.beq x b with
      | true=>exact absurd (Nat.eq_of_beq_eq_true e1) e
      | false=>exact hx
    rcases sr.boxes x bx hx' with g0|⟨kx,cx,Tx,g1,g2,g3,g4⟩
    · exact .inl g0
    refine .inr ⟨kx,cx,Tx,by simp [u6.drop,e,g1],g2,g3,fun i hi=>?_⟩
    obtain ⟨es,g5,g6,g7⟩:=g4 i hi
    refine ⟨es,g5,?_,g7⟩
    have:bx.g i=(bx.g i).map (a2y b):=by
      have:=congrArg (fun b=>b.g i) hkb
      simpa [a1v] using this.symm
    rw [this];exact hkills g6
theorem d7w {code:Code} (hc:a0d c) (b s n cc sz:Nat) (g:Nat→List i7) (l:List (Nat×AV)) (hs:List (Nat×Box)) (nb:Nat)
    (hw:a1r c.nb0 st (n5 ((s,.one (.gr b sz n cc)) :: l) ((b,⟨sz,cc,g,true⟩) :: hs) nb))
    (hb:Nat.ble c.nb0 b=true) (hcc:n≤cc) (hcl:∀i,i < n→clL 0 (g i)) (hl:∀p∈l,p.1≠s∧a79 b p.2=p.2) (hh:∀p∈hs,p.1≠b∧a1v b p.2=p.2)
    (h:Wp c code Q (n5 ((s,.one (.row sz n g)) :: l) hs nb)):Wp c code Q st:=by
  refine m7 hw ?_
  exact fun E a w sr=>h _ a w (d0f hc b s n cc sz g l hs nb hb hcc hcl hl hh sr)
theorem d85 {ops:Array Oper} {K:St→Prop} {ps:List Prop} {f:FuncId} {xs:List AV} {dst:Option Tmp} {rest:List Oper} {st2:St} {sh:List Sh} (hc:a0d c) (o:Oper) (ho:ops.toList.drop (ops.size - 1 - rest.length)=o :: rest) (hp:y8 ps)
    (hnb:c.nb0≤st2.nb) (hsr:∀E a w,SR c st E a w→∃E',SR c st2 E' a w)
    (h:t8 c.P c.G c.ns ops (a22 c ops K) (n9 c.tt c.ns ops (o :: rest) st2 [] []) fun st' _=>K st'):t8 c.P c.G c.ns ops (a22 c ops K) (.call ps f xs dst rest st sh) fun st' _=>K st':=by
  refine c6u hp fun o' _ _=>?_
  intro k _ hk hr hlen hok Q' hQ E a w s _
  have e:ops.size - 1 - rest.length=k:=by omega
  rw [e] at ho
  have ho2:ops[k]?=some o:=by
    have:=congrArg (fun l:List Oper=>l[0]?) ho
    simpa using this
  rw [hk] at ho2
  cases ho2
  obtain ⟨E',s'⟩:=hsr E a w s
  exact c0b hc (a0j hc.tt _ _ _ _ h).2 (fun j=>by
    cases j with
    | zero=>exact hk.symm
    | succ j=>rw [List.getElem?_cons_succ,hr j];congr 1;omega) (by rw [List.length_cons];omega) hnb hok Q' hQ E' a w s'
theorem d6i {ops:Array Oper} {K:St→Prop} {ps:List Prop} {f:FuncId} {xs:List AV} {dst:Option Tmp} {rest:List Oper} {sh:List Sh} (hc:a0d c) (o:Oper) (b s n cc sz:Nat) (g:Nat→List i7) (l:List (Nat×AV)) (hs:List (Nat×Box)) (nb:Nat)
    (hw:a1r c.nb0 st (n5 ((s,.one (.gr b sz n cc)) :: l) ((b,⟨sz,cc,g,true⟩) :: hs) nb))
    (ho:ops.toList.drop (ops.size - 1 - rest.length)=o :: rest) (hp:y8 ps)
    (hb:Nat.ble c.nb0 b=true) (hcc:n≤cc) (hcl:∀i,i < n→clL 0 (g i)) (hl:∀p∈l,p.1≠s∧a79 b p.2=p.2) (hh:∀p∈hs,p.1≠b∧a1v b p.2=p.2) (hnb:Nat.ble c.nb0 nb=true)
    (h:t8 c.P c.G c.ns ops (a22 c ops K) (n9 c.tt c.ns ops (o :: rest) (n5 ((s,.one (.row sz n g)) :: l) hs nb) [] []) fun st' _=>K st'):t8 c.P c.G c.ns ops (a22 c ops K) (.call ps f xs dst rest st sh) fun st' _=>K st':=
  d85 hc o ho hp (Nat.le_of_ble_eq_true hnb) (fun E a w sr=>⟨_,d0f hc b s n cc sz g l hs nb hb hcc hcl hl hh (hw.sr sr)⟩) h
theorem c9y {code:Code} (hc:a0d c) (b s n cc:Nat) (hcc:n≤cc) (k:IntKind) (ls:List Int) (l:List (Nat×AV)) (hs:List (Nat×Box)) (nb:Nat) (l':List (Nat×AV)) (hs':List (Nat×Box))
    (hw:a1r c.nb0 st (n5 ((s,.one (.own b 1 0 n cc)) :: l) ((b,⟨1,n,fun i=> [.v (.int k (ls.getD i 0))],false⟩) :: hs) nb))
    (hb:c.nb0≤b) (hn:ls.length=n)
    (hl:l.map (fun p=>(p.1,b4c b k n (fun i=>ls.getD i 0) p.2))=l') (hh:hs.map (fun p=>(p.1,a35 b k n (fun i=>ls.getD i 0) p.2))=hs') (hnb:∀p∈hs,p.1≠b)
    (h:Wp c code Q (n5 ((s,.one (.ints k ls)) :: l') hs' nb)):Wp c code Q st:=by
  refine m7 hw ?_
  refine b6f hc b hb (bx:=⟨1,n,fun i=> [.v (.int k (ls.getD i 0))],false⟩) (by simp [n5,boxes,a5t]) rfl k (fun i=>ls.getD i 0) (fun i _=>rfl) ?_
  have e:(List.range n).map (fun j=>ls.getD (0+j) 0)=ls:=by
    subst hn
    apply List.ext_getElem
    · simp
    · intro i h1 h2;simp [h2]
  have et:(⟨fun m=>b4c b k n (fun i=>ls.getD i 0) ((n5 ((s,.one (.own b 1 0 n cc)) :: l) ((b,⟨1,n,fun i=> [.v (.int k (ls.getD i 0))],false⟩) :: hs) nb).t m),fun x=>if x=b then none else ((n5 ((s,.one (.own b 1 0 n cc)) :: l) ((b,⟨1,n,fun i=> [.v (.int k (ls.getD i 0))],false⟩) :: hs) nb).h x).map (a35 b k n (fun i=>ls.getD i 0)),nb⟩:St)=n5 ((s,.one (.ints k ls)) :: l') hs' nb:=by
    simp only [n5,St.mk.injEq,and_true]
    refine ⟨?_,?_⟩
    · funext m
      rw [b36,List.map_cons,hl]
      simp only [b4c,a71,if_true,Nat.zero_add,Nat.le_refl,and_self,hcc]
      have e':(List.range n).map (fun j=>ls.getD j 0)=ls:=by simpa using e
      rw [e']
    · funext x
      by_cases hx:x=b
      · subst hx
        rw [if_pos rfl]
        have:∀(q:List (Nat×Box)),(∀p∈q,p.1≠x)→boxes q x=none:=by
          intro q
          induction q with
          | nil=>intro _;rfl
          | cons p q ih =>
            intro hq
            have h1:=hq p (List.mem_cons_self ..)
            simp only [boxes,a5t]
            cases e1:Nat.beq x p.1 with
            | true=>exact absurd (Nat.eq_of_beq_eq_true e1).symm h1
            | false=>exact ih fun p hp=>hq p (List.mem_cons_of_mem _ hp)
        rw [this]
        intro p hp
        rw [←hh] at hp
        obtain ⟨q,hq,rfl⟩:=List.mem_map.1 hp
        exact hnb q hq
      · rw [if_neg hx]
        have:boxes ((b,⟨1,n,fun i=> [.v (.int k (ls.getD i 0))],false⟩) :: hs) x=boxes hs x:=by
          simp only [boxes,a5t]
          cases e1:Nat.beq x b with
          | true=>exact absurd (Nat.eq_of_beq_eq_true e1) hx
          | false=>rfl
        rw [this,b3l,hh]
  rw [←et] at h
  exact h
-- axioms of c9y
-- axioms of a05
-- axioms of d7w
end Go.Ax
end
section
namespace Go.Proofs
open Go.Ax
abbrev ti3:TyI:={ size:=1,bytes:=8,agg:=false,kind:=.int .i64,zero:=some [.int .i64 0],flat:=some [.int .i64] }
abbrev ti4:TyI:={ size:=1,bytes:=1,agg:=false,kind:=.bool,zero:=some [.bool false],flat:=some [.bool] }
abbrev ti5:TyI:={ size:=1,bytes:=1,agg:=false,kind:=.int .u8,zero:=some [.int .u8 0],flat:=some [.int .u8] }
abbrev ti9:TyI:={ size:=1,bytes:=16,agg:=false,kind:=.string,zero:=some [.string ⟨#[]⟩],flat:=some [.string] }
abbrev ti21:TyI:={ size:=1,bytes:=4,agg:=false,kind:=.int .i32,zero:=some [.int .i32 0],flat:=some [.int .i32] }
abbrev ti24:TyI:={ size:=1,bytes:=8,agg:=false,kind:=.int .i64,zero:=some [.int .i64 0],flat:=some [.int .i64] }
abbrev ti26:TyI:={ size:=1,bytes:=16,agg:=false,kind:=.string,zero:=some [.string ⟨#[]⟩],flat:=some [.string] }
abbrev ti37:TyI:={ size:=3,bytes:=48,agg:=true,kind:=.array 3 26 1,zero:=some [.string ⟨#[]⟩,.string ⟨#[]⟩,.string ⟨#[]⟩],flat:=some [.string,.string,.string] }
abbrev ti39:TyI:={ size:=12,bytes:=192,agg:=true,kind:=.struct [(0,3,true),(3,3,true),(6,3,true),(9,3,true)],zero:=some [.string ⟨#[]⟩,.string ⟨#[]⟩,.string ⟨#[]⟩,.string ⟨#[]⟩,.string ⟨#[]⟩,.string ⟨#[]⟩,.string ⟨#[]⟩,.string ⟨#[]⟩,.string ⟨#[]⟩,.string ⟨#[]⟩,.string ⟨#[]⟩,.string ⟨#[]⟩],flat:=some [.string,.string,.string,.string,.string,.string,.string,.string,.string,.string,.string,.string] }
abbrev ti40:TyI:={ size:=3,bytes:=24,agg:=true,kind:=.array 3 3 1,zero:=some [.int .i64 0,.int .i64 0,.int .i64 0],flat:=some [.int .i64,.int .i64,.int .i64] }
abbrev ti42:TyI:={ size:=4,bytes:=40,agg:=true,kind:=.struct [(0,3,true),(3,1,false)],zero:=some [.int .i64 0,.int .i64 0,.int .i64 0,.string ⟨#[]⟩],flat:=some [.int .i64,.int .i64,.int .i64,.string] }
abbrev ti80:TyI:={ size:=4,bytes:=64,agg:=true,kind:=.array 4 26 1,zero:=some [.string ⟨#[]⟩,.string ⟨#[]⟩,.string ⟨#[]⟩,.string ⟨#[]⟩],flat:=some [.string,.string,.string,.string] }
abbrev ti86:TyI:={ size:=1,bytes:=24,agg:=false,kind:=.slice 26 1,zero:=some [.slice none 0 0],flat:=none }
abbrev ti93:TyI:={ size:=6,bytes:=96,agg:=true,kind:=.array 2 37 3,zero:=some [.string ⟨#[]⟩,.string ⟨#[]⟩,.string ⟨#[]⟩,.string ⟨#[]⟩,.string ⟨#[]⟩,.string ⟨#[]⟩],flat:=some [.string,.string,.string,.string,.string,.string] }
abbrev e0b:TyI:={ size:=9,bytes:=144,agg:=true,kind:=.array 3 37 3,zero:=some [.string ⟨#[]⟩,.string ⟨#[]⟩,.string ⟨#[]⟩,.string ⟨#[]⟩,.string ⟨#[]⟩,.string ⟨#[]⟩,.string ⟨#[]⟩,.string ⟨#[]⟩,.string ⟨#[]⟩],flat:=some [.string,.string,.string,.string,.string,.string,.string,.string,.string] }
abbrev e0c:TyI:={ size:=12,bytes:=120,agg:=true,kind:=.array 3 42 4,zero:=some [.int .i64 0,.int .i64 0,.int .i64 0,.string ⟨#[]⟩,.int .i64 0,.int .i64 0,.int .i64 0,.string ⟨#[]⟩,.int .i64 0,.int .i64 0,.int .i64 0,.string ⟨#[]⟩],flat:=some [.int .i64,.int .i64,.int .i64,.string,.int .i64,.int .i64,.int .i64,.string,.int .i64,.int .i64,.int .i64,.string] }
abbrev e0d:TyI:={ size:=21,bytes:=264,agg:=true,kind:=.struct [(0,9,true),(9,12,true)],zero:=some [.string ⟨#[]⟩,.string ⟨#[]⟩,.string ⟨#[]⟩,.string ⟨#[]⟩,.string ⟨#[]⟩,.string ⟨#[]⟩,.string ⟨#[]⟩,.string ⟨#[]⟩,.string ⟨#[]⟩,.int .i64 0,.int .i64 0,.int .i64 0,.string ⟨#[]⟩,.int .i64 0,.int .i64 0,.int .i64 0,.string ⟨#[]⟩,.int .i64 0,.int .i64 0,.int .i64 0,.string ⟨#[]⟩],flat:=some [.string,.string,.string,.string,.string,.string,.string,.string,.string,.int .i64,.int .i64,.int .i64,.string,.int .i64,.int .i64,.int .i64,.string,.int .i64,.int .i64,.int .i64,.string] }
abbrev e0e:TyI:={ size:=12,bytes:=192,agg:=true,kind:=.array 4 37 3,zero:=some [.string ⟨#[]⟩,.string ⟨#[]⟩,.string ⟨#[]⟩,.string ⟨#[]⟩,.string ⟨#[]⟩,.string ⟨#[]⟩,.string ⟨#[]⟩,.string ⟨#[]⟩,.string ⟨#[]⟩,.string ⟨#[]⟩,.string ⟨#[]⟩,.string ⟨#[]⟩],flat:=some [.string,.string,.string,.string,.string,.string,.string,.string,.string,.string,.string,.string] }
abbrev e0f:TyI:={ size:=1,bytes:=24,agg:=false,kind:=.slice 248 1,zero:=some [.slice none 0 0],flat:=none }
abbrev e0g:TyI:={ size:=2,bytes:=32,agg:=true,kind:=.struct [(0,1,false),(1,1,false)],zero:=some [.int .i64 0,.slice none 0 0],flat:=none }
abbrev e0h:TyI:={ size:=1,bytes:=24,agg:=false,kind:=.slice 3 1,zero:=some [.slice none 0 0],flat:=none }
abbrev e0i:TyI:={ size:=2,bytes:=32,agg:=true,kind:=.struct [(0,1,false),(1,1,false)],zero:=some [.bool false,.slice none 0 0],flat:=none }
abbrev e0j:TyI:={ size:=4,bytes:=64,agg:=true,kind:=.struct [(0,2,true),(2,2,true)],zero:=some [.int .i64 0,.slice none 0 0,.int .i64 0,.slice none 0 0],flat:=none }
abbrev e0k:TyI:={ size:=12,bytes:=192,agg:=true,kind:=.array 3 161 4,zero:=some [.int .i64 0,.slice none 0 0,.int .i64 0,.slice none 0 0,.int .i64 0,.slice none 0 0,.int .i64 0,.slice none 0 0,.int .i64 0,.slice none 0 0,.int .i64 0,.slice none 0 0],flat:=none }
abbrev e0l:TyI:={ size:=12,bytes:=192,agg:=true,kind:=.array 3 161 4,zero:=some [.int .i64 0,.slice none 0 0,.int .i64 0,.slice none 0 0,.int .i64 0,.slice none 0 0,.int .i64 0,.slice none 0 0,.int .i64 0,.slice none 0 0,.int .i64 0,.slice none 0 0],flat:=none }
abbrev e0m:TyI:={ size:=16,bytes:=256,agg:=true,kind:=.struct [(0,12,true),(12,4,true)],zero:=some [.int .i64 0,.slice none 0 0,.int .i64 0,.slice none 0 0,.int .i64 0,.slice none 0 0,.int .i64 0,.slice none 0 0,.int .i64 0,.slice none 0 0,.int .i64 0,.slice none 0 0,.int .i64 0,.slice none 0 0,.int .i64 0,.slice none 0 0],flat:=none }
abbrev e0n:TyI:={ size:=48,bytes:=768,agg:=true,kind:=.struct [(0,12,true),(12,12,true),(24,12,true),(36,12,true)],zero:=some [.int .i64 0,.slice none 0 0,.int .i64 0,.slice none 0 0,.int .i64 0,.slice none 0 0,.int .i64 0,.slice none 0 0,.int .i64 0,.slice none 0 0,.int .i64 0,.slice none 0 0,.int .i64 0,.slice none 0 0,.int .i64 0,.slice none 0 0,.int .i64 0,.slice none 0 0,.int .i64 0,.slice none 0 0,.int .i64 0,.slice none 0 0,.int .i64 0,.slice none 0 0,.int .i64 0,.slice none 0 0,.int .i64 0,.slice none 0 0,.int .i64 0,.slice none 0 0,.int .i64 0,.slice none 0 0,.int .i64 0,.slice none 0 0,.int .i64 0,.slice none 0 0,.int .i64 0,.slice none 0 0,.int .i64 0,.slice none 0 0,.int .i64 0,.slice none 0 0,.int .i64 0,.slice none 0 0,.int .i64 0,.slice none 0 0,.int .i64 0,.slice none 0 0],flat:=none }
abbrev e0o:TyI:={ size:=1,bytes:=24,agg:=false,kind:=.slice 37 3,zero:=some [.slice none 0 0],flat:=none }
abbrev e0p:TyI:={ size:=1,bytes:=16,agg:=false,kind:=.other,zero:=some [.nilIface],flat:=none }
abbrev e0q:TyI:={ size:=1,bytes:=8,agg:=false,kind:=.int .u64,zero:=some [.int .u64 0],flat:=some [.int .u64] }
abbrev e0r:TyI:={ size:=1,bytes:=24,agg:=false,kind:=.slice 24 1,zero:=some [.slice none 0 0],flat:=none }
abbrev e0s:TyI:={ size:=36,bytes:=576,agg:=true,kind:=.array 3 173 12,zero:=some [.int .i64 0,.slice none 0 0,.int .i64 0,.slice none 0 0,.int .i64 0,.slice none 0 0,.int .i64 0,.slice none 0 0,.int .i64 0,.slice none 0 0,.int .i64 0,.slice none 0 0,.int .i64 0,.slice none 0 0,.int .i64 0,.slice none 0 0,.int .i64 0,.slice none 0 0,.int .i64 0,.slice none 0 0,.int .i64 0,.slice none 0 0,.int .i64 0,.slice none 0 0,.int .i64 0,.slice none 0 0,.int .i64 0,.slice none 0 0,.int .i64 0,.slice none 0 0,.int .i64 0,.slice none 0 0,.int .i64 0,.slice none 0 0,.int .i64 0,.slice none 0 0],flat:=none }
abbrev e0t:TyI:={ size:=1,bytes:=8,agg:=false,kind:=.int .u64,zero:=some [.int .u64 0],flat:=some [.int .u64] }
abbrev e0u:TyI:={ size:=1,bytes:=24,agg:=false,kind:=.slice 5 1,zero:=some [.slice none 0 0],flat:=none }
abbrev e0v:TyI:={ size:=1,bytes:=24,agg:=false,kind:=.slice 9 1,zero:=some [.slice none 0 0],flat:=none }
abbrev e0w:TyI:={ size:=1,bytes:=8,agg:=false,kind:=.other,zero:=some [.pointer none],flat:=none }
abbrev e0x:TyI:={ size:=2,bytes:=32,agg:=true,kind:=.struct [(0,1,false),(1,1,false)],zero:=some [.pointer none,.slice none 0 0],flat:=none }
abbrev e0y:TyI:={ size:=1,bytes:=4,agg:=false,kind:=.int .u32,zero:=some [.int .u32 0],flat:=some [.int .u32] }
abbrev e0z:TyI:={ size:=1,bytes:=8,agg:=false,kind:=.other,zero:=some [.pointer none],flat:=none }
abbrev e00:TyI:={ size:=32,bytes:=32,agg:=true,kind:=.array 32 5 1,zero:=some [.int .u8 0,.int .u8 0,.int .u8 0,.int .u8 0,.int .u8 0,.int .u8 0,.int .u8 0,.int .u8 0,.int .u8 0,.int .u8 0,.int .u8 0,.int .u8 0,.int .u8 0,.int .u8 0,.int .u8 0,.int .u8 0,.int .u8 0,.int .u8 0,.int .u8 0,.int .u8 0,.int .u8 0,.int .u8 0,.int .u8 0,.int .u8 0,.int .u8 0,.int .u8 0,.int .u8 0,.int .u8 0,.int .u8 0,.int .u8 0,.int .u8 0,.int .u8 0],flat:=some [.int .u8,.int .u8,.int .u8,.int .u8,.int .u8,.int .u8,.int .u8,.int .u8,.int .u8,.int .u8,.int .u8,.int .u8,.int .u8,.int .u8,.int .u8,.int .u8,.int .u8,.int .u8,.int .u8,.int .u8,.int .u8,.int .u8,.int .u8,.int .u8,.int .u8,.int .u8,.int .u8,.int .u8,.int .u8,.int .u8,.int .u8,.int .u8] }
theorem ty3:tyI Tryz.prog 3=some ti3:=by kernel_rfl
theorem ty4:tyI Tryz.prog 4=some ti4:=by kernel_rfl
theorem ty5:tyI Tryz.prog 5=some ti5:=by kernel_rfl
theorem ty9:tyI Tryz.prog 9=some ti9:=by kernel_rfl
theorem ty21:tyI Tryz.prog 21=some ti21:=by kernel_rfl
theorem ty24:tyI Tryz.prog 24=some ti24:=by kernel_rfl
theorem ty26:tyI Tryz.prog 26=some ti26:=by kernel_rfl
theorem ty37:tyI Tryz.prog 37=some ti37:=by kernel_rfl
theorem ty39:tyI Tryz.prog 39=some ti39:=by kernel_rfl
theorem ty40:tyI Tryz.prog 40=some ti40:=by kernel_rfl
theorem ty42:tyI Tryz.prog 42=some ti42:=by kernel_rfl
theorem ty80:tyI Tryz.prog 80=some ti80:=by kernel_rfl
theorem ty86:tyI Tryz.prog 86=some ti86:=by kernel_rfl
theorem ty93:tyI Tryz.prog 93=some ti93:=by kernel_rfl
theorem ty101:tyI Tryz.prog 101=some e0b:=by kernel_rfl
theorem ty102:tyI Tryz.prog 102=some e0c:=by kernel_rfl
theorem ty104:tyI Tryz.prog 104=some e0d:=by kernel_rfl
theorem ty125:tyI Tryz.prog 125=some e0e:=by kernel_rfl
theorem ty143:tyI Tryz.prog 143=some e0f:=by kernel_rfl
theorem ty145:tyI Tryz.prog 145=some e0g:=by kernel_rfl
theorem ty150:tyI Tryz.prog 150=some e0h:=by kernel_rfl
theorem ty152:tyI Tryz.prog 152=some e0i:=by kernel_rfl
theorem ty161:tyI Tryz.prog 161=some e0j:=by kernel_rfl
theorem ty172:tyI Tryz.prog 172=some e0k:=by kernel_rfl
theorem ty173:tyI Tryz.prog 173=some e0l:=by kernel_rfl
theorem ty175:tyI Tryz.prog 175=some e0m:=by kernel_rfl
theorem ty177:tyI Tryz.prog 177=some e0n:=by kernel_rfl
theorem ty183:tyI Tryz.prog 183=some e0o:=by kernel_rfl
theorem ty224:tyI Tryz.prog 224=some e0p:=by kernel_rfl
theorem ty230:tyI Tryz.prog 230=some e0q:=by kernel_rfl
theorem ty237:tyI Tryz.prog 237=some e0r:=by kernel_rfl
theorem ty242:tyI Tryz.prog 242=some e0s:=by kernel_rfl
theorem ty248:tyI Tryz.prog 248=some e0t:=by kernel_rfl
theorem ty269:tyI Tryz.prog 269=some e0u:=by kernel_rfl
theorem ty276:tyI Tryz.prog 276=some e0v:=by kernel_rfl
theorem ty279:tyI Tryz.prog 279=some e0w:=by kernel_rfl
theorem ty281:tyI Tryz.prog 281=some e0x:=by kernel_rfl
theorem ty282:tyI Tryz.prog 282=some e0y:=by kernel_rfl
theorem ty305:tyI Tryz.prog 305=some e0z:=by kernel_rfl
theorem ty314:tyI Tryz.prog 314=some e00:=by kernel_rfl
def ttT:a9v:=(.node (.node (.node (.node (.node (.node .nil 3 ti3 .nil) 4 ti4 .nil) 5 ti5 (.node (.node .nil 9 ti9 .nil) 21 ti21 .nil)) 24 ti24 (.node (.node (.node .nil 26 ti26 .nil) 37 ti37 .nil) 39 ti39 (.node .nil 40 ti40 .nil))) 42 ti42 (.node (.node (.node (.node .nil 80 ti80 .nil) 86 ti86 .nil) 93 ti93 (.node .nil 101 e0b .nil)) 102 e0c (.node (.node (.node .nil 104 e0d .nil) 125 e0e .nil) 143 e0f (.node .nil 145 e0g .nil)))) 150 e0h (.node (.node (.node (.node (.node .nil 152 e0i .nil) 161 e0j .nil) 172 e0k (.node .nil 173 e0l .nil)) 175 e0m (.node (.node (.node .nil 177 e0n .nil) 183 e0o .nil) 224 e0p (.node .nil 230 e0q .nil))) 237 e0r (.node (.node (.node (.node .nil 242 e0s .nil) 248 e0t .nil) 269 e0u (.node .nil 276 e0v .nil)) 279 e0w (.node (.node (.node .nil 281 e0x .nil) 282 e0y .nil) 305 e0z (.node .nil 314 e00 .nil)))))
def tt (T:TypeId):Option TyI:=ttT.find T
theorem a1u:a2e Tryz.prog tt:=b0m (t:=ttT) ⟨⟨⟨⟨⟨⟨trivial,ty3,trivial⟩,ty4,trivial⟩,ty5,⟨⟨trivial,ty9,trivial⟩,ty21,trivial⟩⟩,ty24,⟨⟨⟨trivial,ty26,trivial⟩,ty37,trivial⟩,ty39,⟨trivial,ty40,trivial⟩⟩⟩,ty42,⟨⟨⟨⟨trivial,ty80,trivial⟩,ty86,trivial⟩,ty93,⟨trivial,ty101,trivial⟩⟩,ty102,⟨⟨⟨trivial,ty104,trivial⟩,ty125,trivial⟩,ty143,⟨trivial,ty145,trivial⟩⟩⟩⟩,ty150,⟨⟨⟨⟨⟨trivial,ty152,trivial⟩,ty161,trivial⟩,ty172,⟨trivial,ty173,trivial⟩⟩,ty175,⟨⟨⟨trivial,ty177,trivial⟩,ty183,trivial⟩,ty224,⟨trivial,ty230,trivial⟩⟩⟩,ty237,⟨⟨⟨⟨trivial,ty242,trivial⟩,ty248,trivial⟩,ty269,⟨trivial,ty276,trivial⟩⟩,ty279,⟨⟨⟨trivial,ty281,trivial⟩,ty282,trivial⟩,ty305,⟨trivial,ty314,trivial⟩⟩⟩⟩⟩
theorem c1e:tt 3=some { size:=1,bytes:=8,agg:=false,kind:=.int .i64,zero:=some [.int .i64 0],flat:=some [.int .i64] }:=rfl
theorem c1f:tt 4=some { size:=1,bytes:=1,agg:=false,kind:=.bool,zero:=some [.bool false],flat:=some [.bool] }:=rfl
theorem c1g:tt 5=some { size:=1,bytes:=1,agg:=false,kind:=.int .u8,zero:=some [.int .u8 0],flat:=some [.int .u8] }:=rfl
theorem c1h:tt 9=some { size:=1,bytes:=16,agg:=false,kind:=.string,zero:=some [.string ⟨#[]⟩],flat:=some [.string] }:=rfl
theorem b24:tt 21=some { size:=1,bytes:=4,agg:=false,kind:=.int .i32,zero:=some [.int .i32 0],flat:=some [.int .i32] }:=rfl
theorem b25:tt 24=some { size:=1,bytes:=8,agg:=false,kind:=.int .i64,zero:=some [.int .i64 0],flat:=some [.int .i64] }:=rfl
theorem b26:tt 26=some { size:=1,bytes:=16,agg:=false,kind:=.string,zero:=some [.string ⟨#[]⟩],flat:=some [.string] }:=rfl
theorem b27:tt 37=some { size:=3,bytes:=48,agg:=true,kind:=.array 3 26 1,zero:=some [.string ⟨#[]⟩,.string ⟨#[]⟩,.string ⟨#[]⟩],flat:=some [.string,.string,.string] }:=rfl
theorem b28:tt 39=some { size:=12,bytes:=192,agg:=true,kind:=.struct [(0,3,true),(3,3,true),(6,3,true),(9,3,true)],zero:=some [.string ⟨#[]⟩,.string ⟨#[]⟩,.string ⟨#[]⟩,.string ⟨#[]⟩,.string ⟨#[]⟩,.string ⟨#[]⟩,.string ⟨#[]⟩,.string ⟨#[]⟩,.string ⟨#[]⟩,.string ⟨#[]⟩,.string ⟨#[]⟩,.string ⟨#[]⟩],flat:=some [.string,.string,.string,.string,.string,.string,.string,.string,.string,.string,.string,.string] }:=rfl
theorem b29:tt 40=some { size:=3,bytes:=24,agg:=true,kind:=.array 3 3 1,zero:=some [.int .i64 0,.int .i64 0,.int .i64 0],flat:=some [.int .i64,.int .i64,.int .i64] }:=rfl
theorem b3a:tt 42=some { size:=4,bytes:=40,agg:=true,kind:=.struct [(0,3,true),(3,1,false)],zero:=some [.int .i64 0,.int .i64 0,.int .i64 0,.string ⟨#[]⟩],flat:=some [.int .i64,.int .i64,.int .i64,.string] }:=rfl
theorem b3b:tt 80=some { size:=4,bytes:=64,agg:=true,kind:=.array 4 26 1,zero:=some [.string ⟨#[]⟩,.string ⟨#[]⟩,.string ⟨#[]⟩,.string ⟨#[]⟩],flat:=some [.string,.string,.string,.string] }:=rfl
theorem b3c:tt 86=some { size:=1,bytes:=24,agg:=false,kind:=.slice 26 1,zero:=some [.slice none 0 0],flat:=none }:=rfl
theorem b3d:tt 93=some { size:=6,bytes:=96,agg:=true,kind:=.array 2 37 3,zero:=some [.string ⟨#[]⟩,.string ⟨#[]⟩,.string ⟨#[]⟩,.string ⟨#[]⟩,.string ⟨#[]⟩,.string ⟨#[]⟩],flat:=some [.string,.string,.string,.string,.string,.string] }:=rfl
theorem a8g:tt 101=some { size:=9,bytes:=144,agg:=true,kind:=.array 3 37 3,zero:=some [.string ⟨#[]⟩,.string ⟨#[]⟩,.string ⟨#[]⟩,.string ⟨#[]⟩,.string ⟨#[]⟩,.string ⟨#[]⟩,.string ⟨#[]⟩,.string ⟨#[]⟩,.string ⟨#[]⟩],flat:=some [.string,.string,.string,.string,.string,.string,.string,.string,.string] }:=rfl
theorem a8h:tt 102=some { size:=12,bytes:=120,agg:=true,kind:=.array 3 42 4,zero:=some [.int .i64 0,.int .i64 0,.int .i64 0,.string ⟨#[]⟩,.int .i64 0,.int .i64 0,.int .i64 0,.string ⟨#[]⟩,.int .i64 0,.int .i64 0,.int .i64 0,.string ⟨#[]⟩],flat:=some [.int .i64,.int .i64,.int .i64,.string,.int .i64,.int .i64,.int .i64,.string,.int .i64,.int .i64,.int .i64,.string] }:=rfl
theorem a8i:tt 104=some { size:=21,bytes:=264,agg:=true,kind:=.struct [(0,9,true),(9,12,true)],zero:=some [.string ⟨#[]⟩,.string ⟨#[]⟩,.string ⟨#[]⟩,.string ⟨#[]⟩,.string ⟨#[]⟩,.string ⟨#[]⟩,.string ⟨#[]⟩,.string ⟨#[]⟩,.string ⟨#[]⟩,.int .i64 0,.int .i64 0,.int .i64 0,.string ⟨#[]⟩,.int .i64 0,.int .i64 0,.int .i64 0,.string ⟨#[]⟩,.int .i64 0,.int .i64 0,.int .i64 0,.string ⟨#[]⟩],flat:=some [.string,.string,.string,.string,.string,.string,.string,.string,.string,.int .i64,.int .i64,.int .i64,.string,.int .i64,.int .i64,.int .i64,.string,.int .i64,.int .i64,.int .i64,.string] }:=rfl
theorem a8j:tt 125=some { size:=12,bytes:=192,agg:=true,kind:=.array 4 37 3,zero:=some [.string ⟨#[]⟩,.string ⟨#[]⟩,.string ⟨#[]⟩,.string ⟨#[]⟩,.string ⟨#[]⟩,.string ⟨#[]⟩,.string ⟨#[]⟩,.string ⟨#[]⟩,.string ⟨#[]⟩,.string ⟨#[]⟩,.string ⟨#[]⟩,.string ⟨#[]⟩],flat:=some [.string,.string,.string,.string,.string,.string,.string,.string,.string,.string,.string,.string] }:=rfl
theorem a8k:tt 143=some { size:=1,bytes:=24,agg:=false,kind:=.slice 248 1,zero:=some [.slice none 0 0],flat:=none }:=rfl
theorem a8l:tt 145=some { size:=2,bytes:=32,agg:=true,kind:=.struct [(0,1,false),(1,1,false)],zero:=some [.int .i64 0,.slice none 0 0],flat:=none }:=rfl
theorem a8m:tt 150=some { size:=1,bytes:=24,agg:=false,kind:=.slice 3 1,zero:=some [.slice none 0 0],flat:=none }:=rfl
theorem a8n:tt 152=some { size:=2,bytes:=32,agg:=true,kind:=.struct [(0,1,false),(1,1,false)],zero:=some [.bool false,.slice none 0 0],flat:=none }:=rfl
theorem a8o:tt 161=some { size:=4,bytes:=64,agg:=true,kind:=.struct [(0,2,true),(2,2,true)],zero:=some [.int .i64 0,.slice none 0 0,.int .i64 0,.slice none 0 0],flat:=none }:=rfl
theorem a8p:tt 172=some { size:=12,bytes:=192,agg:=true,kind:=.array 3 161 4,zero:=some [.int .i64 0,.slice none 0 0,.int .i64 0,.slice none 0 0,.int .i64 0,.slice none 0 0,.int .i64 0,.slice none 0 0,.int .i64 0,.slice none 0 0,.int .i64 0,.slice none 0 0],flat:=none }:=rfl
theorem a8q:tt 173=some { size:=12,bytes:=192,agg:=true,kind:=.array 3 161 4,zero:=some [.int .i64 0,.slice none 0 0,.int .i64 0,.slice none 0 0,.int .i64 0,.slice none 0 0,.int .i64 0,.slice none 0 0,.int .i64 0,.slice none 0 0,.int .i64 0,.slice none 0 0],flat:=none }:=rfl
theorem a8r:tt 175=some { size:=16,bytes:=256,agg:=true,kind:=.struct [(0,12,true),(12,4,true)],zero:=some [.int .i64 0,.slice none 0 0,.int .i64 0,.slice none 0 0,.int .i64 0,.slice none 0 0,.int .i64 0,.slice none 0 0,.int .i64 0,.slice none 0 0,.int .i64 0,.slice none 0 0,.int .i64 0,.slice none 0 0,.int .i64 0,.slice none 0 0],flat:=none }:=rfl
theorem a8s:tt 177=some { size:=48,bytes:=768,agg:=true,kind:=.struct [(0,12,true),(12,12,true),(24,12,true),(36,12,true)],zero:=some [.int .i64 0,.slice none 0 0,.int .i64 0,.slice none 0 0,.int .i64 0,.slice none 0 0,.int .i64 0,.slice none 0 0,.int .i64 0,.slice none 0 0,.int .i64 0,.slice none 0 0,.int .i64 0,.slice none 0 0,.int .i64 0,.slice none 0 0,.int .i64 0,.slice none 0 0,.int .i64 0,.slice none 0 0,.int .i64 0,.slice none 0 0,.int .i64 0,.slice none 0 0,.int .i64 0,.slice none 0 0,.int .i64 0,.slice none 0 0,.int .i64 0,.slice none 0 0,.int .i64 0,.slice none 0 0,.int .i64 0,.slice none 0 0,.int .i64 0,.slice none 0 0,.int .i64 0,.slice none 0 0,.int .i64 0,.slice none 0 0,.int .i64 0,.slice none 0 0,.int .i64 0,.slice none 0 0,.int .i64 0,.slice none 0 0,.int .i64 0,.slice none 0 0],flat:=none }:=rfl
theorem a8t:tt 183=some { size:=1,bytes:=24,agg:=false,kind:=.slice 37 3,zero:=some [.slice none 0 0],flat:=none }:=rfl
theorem a8u:tt 224=some { size:=1,bytes:=16,agg:=false,kind:=.other,zero:=some [.nilIface],flat:=none }:=rfl
theorem a8v:tt 230=some { size:=1,bytes:=8,agg:=false,kind:=.int .u64,zero:=some [.int .u64 0],flat:=some [.int .u64] }:=rfl
theorem a8w:tt 237=some { size:=1,bytes:=24,agg:=false,kind:=.slice 24 1,zero:=some [.slice none 0 0],flat:=none }:=rfl
theorem a8x:tt 242=some { size:=36,bytes:=576,agg:=true,kind:=.array 3 173 12,zero:=some [.int .i64 0,.slice none 0 0,.int .i64 0,.slice none 0 0,.int .i64 0,.slice none 0 0,.int .i64 0,.slice none 0 0,.int .i64 0,.slice none 0 0,.int .i64 0,.slice none 0 0,.int .i64 0,.slice none 0 0,.int .i64 0,.slice none 0 0,.int .i64 0,.slice none 0 0,.int .i64 0,.slice none 0 0,.int .i64 0,.slice none 0 0,.int .i64 0,.slice none 0 0,.int .i64 0,.slice none 0 0,.int .i64 0,.slice none 0 0,.int .i64 0,.slice none 0 0,.int .i64 0,.slice none 0 0,.int .i64 0,.slice none 0 0,.int .i64 0,.slice none 0 0],flat:=none }:=rfl
theorem a8y:tt 248=some { size:=1,bytes:=8,agg:=false,kind:=.int .u64,zero:=some [.int .u64 0],flat:=some [.int .u64] }:=rfl
theorem a8z:tt 269=some { size:=1,bytes:=24,agg:=false,kind:=.slice 5 1,zero:=some [.slice none 0 0],flat:=none }:=rfl
theorem a80:tt 276=some { size:=1,bytes:=24,agg:=false,kind:=.slice 9 1,zero:=some [.slice none 0 0],flat:=none }:=rfl
theorem a81:tt 279=some { size:=1,bytes:=8,agg:=false,kind:=.other,zero:=some [.pointer none],flat:=none }:=rfl
theorem a82:tt 281=some { size:=2,bytes:=32,agg:=true,kind:=.struct [(0,1,false),(1,1,false)],zero:=some [.pointer none,.slice none 0 0],flat:=none }:=rfl
theorem a83:tt 282=some { size:=1,bytes:=4,agg:=false,kind:=.int .u32,zero:=some [.int .u32 0],flat:=some [.int .u32] }:=rfl
theorem a84:tt 305=some { size:=1,bytes:=8,agg:=false,kind:=.other,zero:=some [.pointer none],flat:=none }:=rfl
theorem a86:tt 314=some { size:=32,bytes:=32,agg:=true,kind:=.array 32 5 1,zero:=some [.int .u8 0,.int .u8 0,.int .u8 0,.int .u8 0,.int .u8 0,.int .u8 0,.int .u8 0,.int .u8 0,.int .u8 0,.int .u8 0,.int .u8 0,.int .u8 0,.int .u8 0,.int .u8 0,.int .u8 0,.int .u8 0,.int .u8 0,.int .u8 0,.int .u8 0,.int .u8 0,.int .u8 0,.int .u8 0,.int .u8 0,.int .u8 0,.int .u8 0,.int .u8 0,.int .u8 0,.int .u8 0,.int .u8 0,.int .u8 0,.int .u8 0,.int .u8 0],flat:=some [.int .u8,.int .u8,.int .u8,.int .u8,.int .u8,.int .u8,.int .u8,.int .u8,.int .u8,.int .u8,.int .u8,.int .u8,.int .u8,.int .u8,.int .u8,.int .u8,.int .u8,.int .u8,.int .u8,.int .u8,.int .u8,.int .u8,.int .u8,.int .u8,.int .u8,.int .u8,.int .u8,.int .u8,.int .u8,.int .u8,.int .u8,.int .u8] }:=rfl
theorem mixed:Tryz.prog.follows .mixedOrders=true:=by kernel_rfl
def tab5 (w:World):Option (Array Value):=match (w.heap[5]?:Option Obj) with
  | some (.cells cs _ _)=>some cs
  | _=>none
def G (w:World):Prop:=tab5 w=some (Lib.pow10Tab.map fun z=>Value.int .u64 z).toArray
theorem b1z (w w':World) (h:RowKit.Below w.heap.size w w') (g:G w):G w':=by
  have h5:5 < w.heap.size:=by
    rcases Nat.lt_or_ge 5 w.heap.size with h|h
    · exact h
    · simp [G,tab5,Array.getElem?_eq_none h] at g
  rw [G,tab5,h.block 5 h5]
  exact g
abbrev I (z:Int):AV:=.agg [.int z]
abbrev F (q:Rat):AV:=.agg [.frac q]
abbrev B (b:Bool):AV:=.one (.v (.bool b))
abbrev N (n:Int):AV:=.one (.v (.int .i64 n))
abbrev U (n:Int):AV:=.one (.v (.int .u64 n))
abbrev S (s:ByteArray):AV:=.one (.v (.string s))
abbrev L (l:List Int):AV:=.one (.ints .u64 l)
end Go.Proofs
end
section
namespace Go.Proofs
open Go.Ax
def a3i (P:Program) (G:World→Prop) (nb0:Nat) (ops:Array Oper) (H:Oper→List Oper→St→List Sh→Prop) (out:Out) (K:St→List Sh→Prop):Prop:=t8 P G nb0 ops H out K
def a6s (x:AV) (T E:Prop):Prop:=a5s x T E
def d3t (out:Option (List Prop×AV)) (r:AV):Prop:=b6d out r
section
variable {P:Program} {G':World→Prop} {nb0:Nat} {ops:Array Oper} {H:Oper→List Oper→St→List Sh→Prop} {out out':Out} {K:St→List Sh→Prop} {x y:AV} {T E:Prop} {eo eo':Option (List Prop×AV)} {r:AV} {st:St}
theorem a42 (h:a3i P G' nb0 ops H out' K) (e:Is out out':=by first|(dsimp only [a3h,a4a,kOk,a38,eqV,a4b,n9,a14,a15,a16,a5k,a5l,a18,a2u,a1l,a1m,a17,b3z,a0c,a59,a7a,a7j,a33,a2k,b2v,List.all,a1o,AV.leaves,St.step,St.put,St.eff,n5,slots,a6d,boxes,a5t,a0t,a08,s8,i7.size,upd,a57,a67,a8a,Eff.sh,a0v,a7i,a1y,a3s,b0t,a66,b3y,Box.put,Bool.not_true,Bool.not_false,Option.bind_some,Option.bind_none,Option.map_some,Option.map_none,List.getElem?_toArray,List.getElem?_cons_zero,List.getElem?_cons_succ,List.map,List.map_cons,List.map_nil,List.cons_append,List.nil_append,List.append_nil,List.all_cons,List.all_nil,List.length_cons,List.length_nil,List.flatMap_nil,b0s,a6c,Value.oneCell',b0c,b6v,b3k,a49,unV,a7o,a3t,a1s,a3m,a0y,a1w,i7.clB,Option.getD_some,Option.getD_none,Bool.and_true,Bool.true_and,Bool.and_self,and,Bool.not_true,Bool.not_false,Nat.reduceAdd,Nat.reduceSub,Nat.reduceMul,Nat.reduceBEq,Nat.reduceLT,reduceIte,Nat.zero_add,Nat.add_zero,Int.reduceToNat,Int.toNat_natCast,Nat.beq,Nat.ble,a4k,a1j,St.appG,St.app,St.appI,a79,a2y,a9h,a1v,frz,a3u,a3u.frzLs,b6s,a55,b6u,c1e,c1f,c1g,c1h,b24,b25,b26,b27,b28,b29,b3a,b3b,b3c,b3d,a8g,a8h,a8i,a8j,a8k,a8l,a8m,a8n,a8o,a8p,a8q,a8r,a8s,a8t,a8u,a8v,a8w,a8x,a8y,a8z,a80,a81,a82,a83,a84,a86];with_reducible exact Is.refl _)|exact Is.refl _):t8 P G' nb0 ops H out K:=d01 e h
theorem a40 (h:a6s y T E) (e:Is x y:=by first|(dsimp only [a3h,a4a,kOk,a38,eqV,a4b,n9,a14,a15,a16,a5k,a5l,a18,a2u,a1l,a1m,a17,b3z,a0c,a59,a7a,a7j,a33,a2k,b2v,List.all,a1o,AV.leaves,St.step,St.put,St.eff,n5,slots,a6d,boxes,a5t,a0t,a08,s8,i7.size,upd,a57,a67,a8a,Eff.sh,a0v,a7i,a1y,a3s,b0t,a66,b3y,Box.put,Bool.not_true,Bool.not_false,Option.bind_some,Option.bind_none,Option.map_some,Option.map_none,List.getElem?_toArray,List.getElem?_cons_zero,List.getElem?_cons_succ,List.map,List.map_cons,List.map_nil,List.cons_append,List.nil_append,List.append_nil,List.all_cons,List.all_nil,List.length_cons,List.length_nil,List.flatMap_nil,b0s,a6c,Value.oneCell',b0c,b6v,b3k,a49,unV,a7o,a3t,a1s,a3m,a0y,a1w,i7.clB,Option.getD_some,Option.getD_none,Bool.and_true,Bool.true_and,Bool.and_self,and,Bool.not_true,Bool.not_false,Nat.reduceAdd,Nat.reduceSub,Nat.reduceMul,Nat.reduceBEq,Nat.reduceLT,reduceIte,Nat.zero_add,Nat.add_zero,Int.reduceToNat,Int.toNat_natCast,Nat.beq,Nat.ble,a4k,a1j,St.appG,St.app,St.appI,a79,a2y,a9h,a1v,frz,a3u,a3u.frzLs,b6s,a55,b6u,c1e,c1f,c1g,c1h,b24,b25,b26,b27,b28,b29,b3a,b3b,b3c,b3d,a8g,a8h,a8i,a8j,a8k,a8l,a8m,a8n,a8o,a8p,a8q,a8r,a8s,a8t,a8u,a8v,a8w,a8x,a8y,a8z,a80,a81,a82,a83,a84,a86];with_reducible exact Is.refl _)|exact Is.refl _):a5s x T E:=c55 e h
theorem a41 (h:d3t eo' r) (e:Is eo eo':=by first|(dsimp only [a3h,a4a,kOk,a38,eqV,a4b,n9,a14,a15,a16,a5k,a5l,a18,a2u,a1l,a1m,a17,b3z,a0c,a59,a7a,a7j,a33,a2k,b2v,List.all,a1o,AV.leaves,St.step,St.put,St.eff,n5,slots,a6d,boxes,a5t,a0t,a08,s8,i7.size,upd,a57,a67,a8a,Eff.sh,a0v,a7i,a1y,a3s,b0t,a66,b3y,Box.put,Bool.not_true,Bool.not_false,Option.bind_some,Option.bind_none,Option.map_some,Option.map_none,List.getElem?_toArray,List.getElem?_cons_zero,List.getElem?_cons_succ,List.map,List.map_cons,List.map_nil,List.cons_append,List.nil_append,List.append_nil,List.all_cons,List.all_nil,List.length_cons,List.length_nil,List.flatMap_nil,b0s,a6c,Value.oneCell',b0c,b6v,b3k,a49,unV,a7o,a3t,a1s,a3m,a0y,a1w,i7.clB,Option.getD_some,Option.getD_none,Bool.and_true,Bool.true_and,Bool.and_self,and,Bool.not_true,Bool.not_false,Nat.reduceAdd,Nat.reduceSub,Nat.reduceMul,Nat.reduceBEq,Nat.reduceLT,reduceIte,Nat.zero_add,Nat.add_zero,Int.reduceToNat,Int.toNat_natCast,Nat.beq,Nat.ble,a4k,a1j,St.appG,St.app,St.appI,a79,a2y,a9h,a1v,frz,a3u,a3u.frzLs,b6s,a55,b6u,c1e,c1f,c1g,c1h,b24,b25,b26,b27,b28,b29,b3a,b3b,b3c,b3d,a8g,a8h,a8i,a8j,a8k,a8l,a8m,a8n,a8o,a8p,a8q,a8r,a8s,a8t,a8u,a8v,a8w,a8x,a8y,a8z,a80,a81,a82,a83,a84,a86];with_reducible exact Is.refl _)|exact Is.refl _):b6d eo r:=d0b e h
theorem zia0 {α:Type} {x y:α} (e:Is x y:=by first|(dsimp only [a3h,a4a,kOk,a38,eqV,a4b,n9,a14,a15,a16,a5k,a5l,a18,a2u,a1l,a1m,a17,b3z,a0c,a59,a7a,a7j,a33,a2k,b2v,List.all,a1o,AV.leaves,St.step,St.put,St.eff,n5,slots,a6d,boxes,a5t,a0t,a08,s8,i7.size,upd,a57,a67,a8a,Eff.sh,a0v,a7i,a1y,a3s,b0t,a66,b3y,Box.put,Bool.not_true,Bool.not_false,Option.bind_some,Option.bind_none,Option.map_some,Option.map_none,List.getElem?_toArray,List.getElem?_cons_zero,List.getElem?_cons_succ,List.map,List.map_cons,List.map_nil,List.cons_append,List.nil_append,List.append_nil,List.all_cons,List.all_nil,List.length_cons,List.length_nil,List.flatMap_nil,b0s,a6c,Value.oneCell',b0c,b6v,b3k,a49,unV,a7o,a3t,a1s,a3m,a0y,a1w,i7.clB,Option.getD_some,Option.getD_none,Bool.and_true,Bool.true_and,Bool.and_self,and,Bool.not_true,Bool.not_false,Nat.reduceAdd,Nat.reduceSub,Nat.reduceMul,Nat.reduceBEq,Nat.reduceLT,reduceIte,Nat.zero_add,Nat.add_zero,Int.reduceToNat,Int.toNat_natCast,Nat.beq,Nat.ble,a4k,a1j,St.appG,St.app,St.appI,a79,a2y,a9h,a1v,frz,a3u,a3u.frzLs,b6s,a55,b6u,c1e,c1f,c1g,c1h,b24,b25,b26,b27,b28,b29,b3a,b3b,b3c,b3d,a8g,a8h,a8i,a8j,a8k,a8l,a8m,a8n,a8o,a8p,a8q,a8r,a8s,a8t,a8u,a8v,a8w,a8x,a8y,a8z,a80,a81,a82,a83,a84,a86];with_reducible exact Is.refl _)|exact Is.refl _):Is x y:=e
theorem w6 (h:a3i P G' nb0 ops H out' K) (e:Is out out':=by first|(dsimp only [a3h,a4a,kOk,a38,eqV,a4b,n9,a14,a15,a16,a5k,a5l,a18,a2u,a1l,a1m,a17,b3z,a0c,a59,a7a,a7j,a33,a2k,b2v,List.all,a1o,AV.leaves,St.step,St.put,St.eff,n5,slots,a6d,boxes,a5t,a0t,a08,s8,i7.size,upd,a57,a67,a8a,Eff.sh,a0v,a7i,a1y,a3s,b0t,a66,b3y,Box.put,Bool.not_true,Bool.not_false,Option.bind_some,Option.bind_none,Option.map_some,Option.map_none,List.getElem?_toArray,List.getElem?_cons_zero,List.getElem?_cons_succ,List.map,List.map_cons,List.map_nil,List.cons_append,List.nil_append,List.append_nil,List.all_cons,List.all_nil,List.length_cons,List.length_nil,List.flatMap_nil,b0s,a6c,Value.oneCell',b0c,b6v,b3k,a49,unV,a7o,a3t,a1s,a3m,a0y,a1w,i7.clB,Option.getD_some,Option.getD_none,Bool.and_true,Bool.true_and,Bool.and_self,and,Bool.not_true,Bool.not_false,Nat.reduceAdd,Nat.reduceSub,Nat.reduceMul,Nat.reduceBEq,Nat.reduceLT,reduceIte,Nat.zero_add,Nat.add_zero,Int.reduceToNat,Int.toNat_natCast,Nat.beq,Nat.ble,a4k,a1j,St.appG,St.app,St.appI,a79,a2y,a9h,a1v,frz,a3u,a3u.frzLs,b6s,a55,b6u,a7r,c1e,c1f,c1g,c1h,b24,b25,b26,b27,b28,b29,b3a,b3b,b3c,b3d,a8g,a8h,a8i,a8j,a8k,a8l,a8m,a8n,a8o,a8p,a8q,a8r,a8s,a8t,a8u,a8v,a8w,a8x,a8y,a8z,a80,a81,a82,a83,a84,a86];with_reducible exact Is.refl _)|exact Is.refl _):t8 P G' nb0 ops H out K:=d01 e h
theorem u9 (h:a6s y T E) (e:Is x y:=by first|(dsimp only [a3h,a4a,kOk,a38,eqV,a4b,n9,a14,a15,a16,a5k,a5l,a18,a2u,a1l,a1m,a17,b3z,a0c,a59,a7a,a7j,a33,a2k,b2v,List.all,a1o,AV.leaves,St.step,St.put,St.eff,n5,slots,a6d,boxes,a5t,a0t,a08,s8,i7.size,upd,a57,a67,a8a,Eff.sh,a0v,a7i,a1y,a3s,b0t,a66,b3y,Box.put,Bool.not_true,Bool.not_false,Option.bind_some,Option.bind_none,Option.map_some,Option.map_none,List.getElem?_toArray,List.getElem?_cons_zero,List.getElem?_cons_succ,List.map,List.map_cons,List.map_nil,List.cons_append,List.nil_append,List.append_nil,List.all_cons,List.all_nil,List.length_cons,List.length_nil,List.flatMap_nil,b0s,a6c,Value.oneCell',b0c,b6v,b3k,a49,unV,a7o,a3t,a1s,a3m,a0y,a1w,i7.clB,Option.getD_some,Option.getD_none,Bool.and_true,Bool.true_and,Bool.and_self,and,Bool.not_true,Bool.not_false,Nat.reduceAdd,Nat.reduceSub,Nat.reduceMul,Nat.reduceBEq,Nat.reduceLT,reduceIte,Nat.zero_add,Nat.add_zero,Int.reduceToNat,Int.toNat_natCast,Nat.beq,Nat.ble,a4k,a1j,St.appG,St.app,St.appI,a79,a2y,a9h,a1v,frz,a3u,a3u.frzLs,b6s,a55,b6u,a7r,c1e,c1f,c1g,c1h,b24,b25,b26,b27,b28,b29,b3a,b3b,b3c,b3d,a8g,a8h,a8i,a8j,a8k,a8l,a8m,a8n,a8o,a8p,a8q,a8r,a8s,a8t,a8u,a8v,a8w,a8x,a8y,a8z,a80,a81,a82,a83,a84,a86];with_reducible exact Is.refl _)|exact Is.refl _):a5s x T E:=c55 e h
theorem w5 (h:d3t eo' r) (e:Is eo eo':=by first|(dsimp only [a3h,a4a,kOk,a38,eqV,a4b,n9,a14,a15,a16,a5k,a5l,a18,a2u,a1l,a1m,a17,b3z,a0c,a59,a7a,a7j,a33,a2k,b2v,List.all,a1o,AV.leaves,St.step,St.put,St.eff,n5,slots,a6d,boxes,a5t,a0t,a08,s8,i7.size,upd,a57,a67,a8a,Eff.sh,a0v,a7i,a1y,a3s,b0t,a66,b3y,Box.put,Bool.not_true,Bool.not_false,Option.bind_some,Option.bind_none,Option.map_some,Option.map_none,List.getElem?_toArray,List.getElem?_cons_zero,List.getElem?_cons_succ,List.map,List.map_cons,List.map_nil,List.cons_append,List.nil_append,List.append_nil,List.all_cons,List.all_nil,List.length_cons,List.length_nil,List.flatMap_nil,b0s,a6c,Value.oneCell',b0c,b6v,b3k,a49,unV,a7o,a3t,a1s,a3m,a0y,a1w,i7.clB,Option.getD_some,Option.getD_none,Bool.and_true,Bool.true_and,Bool.and_self,and,Bool.not_true,Bool.not_false,Nat.reduceAdd,Nat.reduceSub,Nat.reduceMul,Nat.reduceBEq,Nat.reduceLT,reduceIte,Nat.zero_add,Nat.add_zero,Int.reduceToNat,Int.toNat_natCast,Nat.beq,Nat.ble,a4k,a1j,St.appG,St.app,St.appI,a79,a2y,a9h,a1v,frz,a3u,a3u.frzLs,b6s,a55,b6u,a7r,c1e,c1f,c1g,c1h,b24,b25,b26,b27,b28,b29,b3a,b3b,b3c,b3d,a8g,a8h,a8i,a8j,a8k,a8l,a8m,a8n,a8o,a8p,a8q,a8r,a8s,a8t,a8u,a8v,a8w,a8x,a8y,a8z,a80,a81,a82,a83,a84,a86];with_reducible exact Is.refl _)|exact Is.refl _):b6d eo r:=d0b e h
theorem zwa1 {l:List (Nat×AV)} {hs:List (Nat×Box)} {nb nb0:Nat} {l1:List (AV×AV)} {h1:List (Nat×Option Box×Box)} (a:a32 nb l1) (b:a1g nb h1) (e1:Is (a0t st.t l) l1:=by first|(dsimp only [a3h,a4a,kOk,a38,eqV,a4b,n9,a14,a15,a16,a5k,a5l,a18,a2u,a1l,a1m,a17,b3z,a0c,a59,a7a,a7j,a33,a2k,b2v,List.all,a1o,AV.leaves,St.step,St.put,St.eff,n5,slots,a6d,boxes,a5t,a0t,a08,s8,i7.size,upd,a57,a67,a8a,Eff.sh,a0v,a7i,a1y,a3s,b0t,a66,b3y,Box.put,Bool.not_true,Bool.not_false,Option.bind_some,Option.bind_none,Option.map_some,Option.map_none,List.getElem?_toArray,List.getElem?_cons_zero,List.getElem?_cons_succ,List.map,List.map_cons,List.map_nil,List.cons_append,List.nil_append,List.append_nil,List.all_cons,List.all_nil,List.length_cons,List.length_nil,List.flatMap_nil,b0s,a6c,Value.oneCell',b0c,b6v,b3k,a49,unV,a7o,a3t,a1s,a3m,a0y,a1w,i7.clB,Option.getD_some,Option.getD_none,Bool.and_true,Bool.true_and,Bool.and_self,and,Bool.not_true,Bool.not_false,Nat.reduceAdd,Nat.reduceSub,Nat.reduceMul,Nat.reduceBEq,Nat.reduceLT,reduceIte,Nat.zero_add,Nat.add_zero,Int.reduceToNat,Int.toNat_natCast,Nat.beq,Nat.ble,a4k,a1j,St.appG,St.app,St.appI,a79,a2y,a9h,a1v,frz,a3u,a3u.frzLs,b6s,a55,b6u,a7r,c1e,c1f,c1g,c1h,b24,b25,b26,b27,b28,b29,b3a,b3b,b3c,b3d,a8g,a8h,a8i,a8j,a8k,a8l,a8m,a8n,a8o,a8p,a8q,a8r,a8s,a8t,a8u,a8v,a8w,a8x,a8y,a8z,a80,a81,a82,a83,a84,a86];with_reducible exact Is.refl _)|exact Is.refl _) (e2:Is (a08 st.h hs) h1:=by first|(dsimp only [a3h,a4a,kOk,a38,eqV,a4b,n9,a14,a15,a16,a5k,a5l,a18,a2u,a1l,a1m,a17,b3z,a0c,a59,a7a,a7j,a33,a2k,b2v,List.all,a1o,AV.leaves,St.step,St.put,St.eff,n5,slots,a6d,boxes,a5t,a0t,a08,s8,i7.size,upd,a57,a67,a8a,Eff.sh,a0v,a7i,a1y,a3s,b0t,a66,b3y,Box.put,Bool.not_true,Bool.not_false,Option.bind_some,Option.bind_none,Option.map_some,Option.map_none,List.getElem?_toArray,List.getElem?_cons_zero,List.getElem?_cons_succ,List.map,List.map_cons,List.map_nil,List.cons_append,List.nil_append,List.append_nil,List.all_cons,List.all_nil,List.length_cons,List.length_nil,List.flatMap_nil,b0s,a6c,Value.oneCell',b0c,b6v,b3k,a49,unV,a7o,a3t,a1s,a3m,a0y,a1w,i7.clB,Option.getD_some,Option.getD_none,Bool.and_true,Bool.true_and,Bool.and_self,and,Bool.not_true,Bool.not_false,Nat.reduceAdd,Nat.reduceSub,Nat.reduceMul,Nat.reduceBEq,Nat.reduceLT,reduceIte,Nat.zero_add,Nat.add_zero,Int.reduceToNat,Int.toNat_natCast,Nat.beq,Nat.ble,a4k,a1j,St.appG,St.app,St.appI,a79,a2y,a9h,a1v,frz,a3u,a3u.frzLs,b6s,a55,b6u,a7r,c1e,c1f,c1g,c1h,b24,b25,b26,b27,b28,b29,b3a,b3b,b3c,b3d,a8g,a8h,a8i,a8j,a8k,a8l,a8m,a8n,a8o,a8p,a8q,a8r,a8s,a8t,a8u,a8v,a8w,a8x,a8y,a8z,a80,a81,a82,a83,a84,a86];with_reducible exact Is.refl _)|exact Is.refl _) (e3:Nat.ble nb0 nb=true:=by rfl):a1r nb0 st (n5 l hs nb):=
  b2n (by have e1:_=_:=e1;rw [e1];exact a) (by have e2:_=_:=e2;rw [e2];exact b) e3
theorem b7p {α:Type} {x y:α} (e:Is x y:=by first|(dsimp only [a3h,a4a,kOk,a38,eqV,a4b,n9,a14,a15,a16,a5k,a5l,a18,a2u,a1l,a1m,a17,b3z,a0c,a59,a7a,a7j,a33,a2k,b2v,List.all,a1o,AV.leaves,St.step,St.put,St.eff,n5,slots,a6d,boxes,a5t,a0t,a08,s8,i7.size,upd,a57,a67,a8a,Eff.sh,a0v,a7i,a1y,a3s,b0t,a66,b3y,Box.put,Bool.not_true,Bool.not_false,Option.bind_some,Option.bind_none,Option.map_some,Option.map_none,List.getElem?_toArray,List.getElem?_cons_zero,List.getElem?_cons_succ,List.map,List.map_cons,List.map_nil,List.cons_append,List.nil_append,List.append_nil,List.all_cons,List.all_nil,List.length_cons,List.length_nil,List.flatMap_nil,b0s,a6c,Value.oneCell',b0c,b6v,b3k,a49,unV,a7o,a3t,a1s,a3m,a0y,a1w,i7.clB,Option.getD_some,Option.getD_none,Bool.and_true,Bool.true_and,Bool.and_self,and,Bool.not_true,Bool.not_false,Nat.reduceAdd,Nat.reduceSub,Nat.reduceMul,Nat.reduceBEq,Nat.reduceLT,reduceIte,Nat.zero_add,Nat.add_zero,Int.reduceToNat,Int.toNat_natCast,Nat.beq,Nat.ble,a4k,a1j,St.appG,St.app,St.appI,a79,a2y,a9h,a1v,frz,a3u,a3u.frzLs,b6s,a55,b6u,a7r,c1e,c1f,c1g,c1h,b24,b25,b26,b27,b28,b29,b3a,b3b,b3c,b3d,a8g,a8h,a8i,a8j,a8k,a8l,a8m,a8n,a8o,a8p,a8q,a8r,a8s,a8t,a8u,a8v,a8w,a8x,a8y,a8z,a80,a81,a82,a83,a84,a86];with_reducible exact Is.refl _)|exact Is.refl _):Is x y:=e
end
section
variable {c:Ctx} {Q:Exit→St→Prop} {st:St}
theorem zrs {id:Nat} {ops:Array Oper} (S:List Nat) (hc:a0d c) (hS:(S.all fun i=>!Nat.beq i id)=true) (h:t8 c.P c.G c.ns ops (a22 c ops fun st'=>Q .normal st') (n9 c.tt c.ns ops ops.toList st [] []) fun st' _=>Q .normal st')
    (hnb:Nat.ble c.nb0 st.nb=true:=by kernel_rfl) (hd:c2g c.N ops=true:=by kernel_rfl):Wp c (.region id ops false) Q st:=b2u hc (Nat.le_of_ble_eq_true hnb) hd h
theorem zrm {id:Nat} {ops:Array Oper} (S:List Nat) (hc:a0d c) (hm:c.P.follows .mixedOrders=true) (hS:(S.all fun i=>!Nat.beq i id)=true) (h:t8 c.P c.G c.ns ops (fun _ _ _ _=>False) (n9 c.tt c.ns ops ops.toList st [] []) fun st' sh=>b00 ops st.nb sh=true∧Q .normal st')
    (hnb:Nat.ble c.nb0 st.nb=true:=by kernel_rfl) (hd:b6m c.N ops=true:=by kernel_rfl):Wp c (.region id ops true) Q st:=c1n hc hm (Nat.le_of_ble_eq_true hnb) hd h
theorem zwk {x:Operand} {t e:Code} (h:a5s (a1o st.t x) (Wp c t Q st) (Wp c e Q st)) (hk:a0v x=true:=by kernel_rfl):Wp c (.cond x t e) Q st:=d3w hk h
theorem zbn {id id':Nat} (h:Q (.exit id') st) (hn:Nat.beq id' id=false:=by decide):Blk id Q (.exit id') st:=e07 hn h
end
theorem zbo {ops:Array Oper} {nb:Nat} {sh:List Sh} {q:Prop} (h:q) (hb:b00 ops nb sh=true:=by kernel_rfl):b00 ops nb sh=true∧q:=⟨hb,h⟩
section
variable {G':World→Prop} {nb0:Nat} {ops:Array Oper} {H:Oper→List Oper→St→List Sh→Prop} {K:St→List Sh→Prop} {ps:List Prop} {rest:List Oper} {st:St} {sh:List Sh}
theorem c9 {f:FuncId} {xs:List AV} {r:AV} {dst:Option Tmp} (hc:Pure Tryz.prog G' f xs r) (hp:y8 ps) (h:t8 Tryz.prog G' nb0 ops H (n9 tt nb0 ops rest (st.step dst { val:=r }) (sh++ [⟨[],none⟩]) []) K):a3i Tryz.prog G' nb0 ops H (.call ps f xs dst rest st sh) K:=a2v a1u hc (a6v.refl _) hp h
theorem c7s {f:FuncId} {xs:List AV} {r:AV} {dst:Option Tmp} (hc:c5d Tryz.prog f xs r) (hp:y8 ps) (h:t8 Tryz.prog G' nb0 ops H (n9 tt nb0 ops rest (st.step dst { val:=r }) (sh++ [⟨[],none⟩]) []) K):a3i Tryz.prog G' nb0 ops H (.call ps f xs dst rest st sh) K:=c8w a1u hc (a6v.refl _) hp h
theorem zocn {f:FuncId} {xs:List AV} {sz m n c':Nat} {g:Nat→List i7} {dst:Option Tmp} (hc:b6e Tryz.prog G' f xs sz m n c' g) (hp:y8 ps)
    (h:t8 Tryz.prog G' nb0 ops H (n9 tt nb0 ops rest (st.step dst { val:=.one (.own st.nb sz 0 n c'),eff:=.new st.nb ⟨sz,m,g,false⟩}) (sh++ [⟨[],(Eff.new st.nb ⟨sz,m,g,false⟩).sh⟩]) []) K):a3i Tryz.prog G' nb0 ops H (.call ps f xs dst rest st sh) K:=c8v a1u hc (a6v.refl _) hp h
end
section
variable {P:Program} {G':World→Prop} {nb0:Nat} {ops:Array Oper} {H:Oper→List Oper→St→List Sh→Prop} {K:St→List Sh→Prop} {ps:List Prop} {rest:List Oper} {st:St} {sh:List Sh} {tt:TypeId→Option TyI} {o:Oper} {d:Nat}
theorem zod (hp:y8 ps) (h:K st sh):a3i P G' nb0 ops H (.done ps st sh) K:=d2p hp h
theorem zott (htt:a2e P tt) (hp:y8 ps) (h:t8 P G' nb0 ops H (a0c tt nb0 o rest st sh [] (n9 tt nb0 ops rest)) K):a3i P G' nb0 ops H (.guard ps true true d o rest st sh) K:=d87 htt hp h
theorem zoff (htt:a2e P tt) (hp:y8 ps) (h:t8 P G' nb0 ops H (a0c tt nb0 o rest st sh [] (n9 tt nb0 ops rest)) K):a3i P G' nb0 ops H (.guard ps false false d o rest st sh) K:=d83 htt hp h
theorem zotf (htt:a2e P tt) (hp:y8 ps) (h:t8 P G' nb0 ops H (n9 tt nb0 ops rest (st.put o.dst (.tup [])) (sh++ [⟨[],none⟩]) []) K):a3i P G' nb0 ops H (.guard ps true false d o rest st sh) K:=d86 htt hp h
theorem zoft (htt:a2e P tt) (hp:y8 ps) (h:t8 P G' nb0 ops H (n9 tt nb0 ops rest (st.put o.dst (.tup [])) (sh++ [⟨[],none⟩]) []) K):a3i P G' nb0 ops H (.guard ps false true d o rest st sh) K:=d84 htt hp h
theorem zoitd {p:Prop} [Decidable p] (htt:a2e P tt) (hp:y8 ps) (hy:p→t8 P G' nb0 ops H (a0c tt nb0 o rest { st with t:=upd st.t d (.one (.v (.bool true))) } sh [] (n9 tt nb0 ops rest)) K) (hn:¬p→t8 P G' nb0 ops H (n9 tt nb0 ops rest (({ st with t:=upd st.t d (.one (.v (.bool false))) }:St).put o.dst (.tup [])) (sh++ [⟨[],none⟩]) []) K):a3i P G' nb0 ops H (.guard ps (decide p) true d o rest st sh) K:=c4c htt hp hy hn
theorem zoite {x y:Int} (htt:a2e P tt) (hp:y8 ps) (hy:x=y→t8 P G' nb0 ops H (a0c tt nb0 o rest { st with t:=upd st.t d (.one (.v (.bool true))) } sh [] (n9 tt nb0 ops rest)) K) (hn:¬x=y→t8 P G' nb0 ops H (n9 tt nb0 ops rest (({ st with t:=upd st.t d (.one (.v (.bool false))) }:St).put o.dst (.tup [])) (sh++ [⟨[],none⟩]) []) K):a3i P G' nb0 ops H (.guard ps (x == y) true d o rest st sh) K:=c4a htt hp hy hn
theorem zoitn {x y:Int} (htt:a2e P tt) (hp:y8 ps) (hy:¬x=y→t8 P G' nb0 ops H (a0c tt nb0 o rest { st with t:=upd st.t d (.one (.v (.bool true))) } sh [] (n9 tt nb0 ops rest)) K) (hn:x=y→t8 P G' nb0 ops H (n9 tt nb0 ops rest (({ st with t:=upd st.t d (.one (.v (.bool false))) }:St).put o.dst (.tup [])) (sh++ [⟨[],none⟩]) []) K):a3i P G' nb0 ops H (.guard ps (x != y) true d o rest st sh) K:=c4b htt hp hy hn
theorem zoit {b:Bool} (htt:a2e P tt) (hp:y8 ps) (hy:b=true→t8 P G' nb0 ops H (a0c tt nb0 o rest { st with t:=upd st.t d (.one (.v (.bool true))) } sh [] (n9 tt nb0 ops rest)) K) (hn:b=false→t8 P G' nb0 ops H (n9 tt nb0 ops rest (({ st with t:=upd st.t d (.one (.v (.bool false))) }:St).put o.dst (.tup [])) (sh++ [⟨[],none⟩]) []) K):a3i P G' nb0 ops H (.guard ps b true d o rest st sh) K:=b5c htt hp hy hn
theorem zoifd {p:Prop} [Decidable p] (htt:a2e P tt) (hp:y8 ps) (hy:¬p→t8 P G' nb0 ops H (a0c tt nb0 o rest { st with t:=upd st.t d (.one (.v (.bool false))) } sh [] (n9 tt nb0 ops rest)) K) (hn:p→t8 P G' nb0 ops H (n9 tt nb0 ops rest (({ st with t:=upd st.t d (.one (.v (.bool true))) }:St).put o.dst (.tup [])) (sh++ [⟨[],none⟩]) []) K):a3i P G' nb0 ops H (.guard ps (decide p) false d o rest st sh) K:=c3z htt hp hy hn
theorem zoife {x y:Int} (htt:a2e P tt) (hp:y8 ps) (hy:¬x=y→t8 P G' nb0 ops H (a0c tt nb0 o rest { st with t:=upd st.t d (.one (.v (.bool false))) } sh [] (n9 tt nb0 ops rest)) K) (hn:x=y→t8 P G' nb0 ops H (n9 tt nb0 ops rest (({ st with t:=upd st.t d (.one (.v (.bool true))) }:St).put o.dst (.tup [])) (sh++ [⟨[],none⟩]) []) K):a3i P G' nb0 ops H (.guard ps (x == y) false d o rest st sh) K:=c3x htt hp hy hn
theorem zoifn {x y:Int} (htt:a2e P tt) (hp:y8 ps) (hy:x=y→t8 P G' nb0 ops H (a0c tt nb0 o rest { st with t:=upd st.t d (.one (.v (.bool false))) } sh [] (n9 tt nb0 ops rest)) K) (hn:¬x=y→t8 P G' nb0 ops H (n9 tt nb0 ops rest (({ st with t:=upd st.t d (.one (.v (.bool true))) }:St).put o.dst (.tup [])) (sh++ [⟨[],none⟩]) []) K):a3i P G' nb0 ops H (.guard ps (x != y) false d o rest st sh) K:=c3y htt hp hy hn
theorem zoif {b:Bool} (htt:a2e P tt) (hp:y8 ps) (hy:b=false→t8 P G' nb0 ops H (a0c tt nb0 o rest { st with t:=upd st.t d (.one (.v (.bool false))) } sh [] (n9 tt nb0 ops rest)) K) (hn:b=true→t8 P G' nb0 ops H (n9 tt nb0 ops rest (({ st with t:=upd st.t d (.one (.v (.bool true))) }:St).put o.dst (.tup [])) (sh++ [⟨[],none⟩]) []) K):a3i P G' nb0 ops H (.guard ps b false d o rest st sh) K:=b5b htt hp hy hn
end
section
variable {T E:Prop}
theorem zct (h:T):a6s (.one (.v (.bool true))) T E:=d8g h
theorem zcf (h:E):a6s (.one (.v (.bool false))) T E:=d8f h
theorem zcd {p:Prop} [Decidable p] (h1:p→T) (h2:¬p→E):a6s (.one (.v (.bool (decide p)))) T E:=d2a h1 h2
theorem zce {a b:Int} (h1:a=b→T) (h2:¬a=b→E):a6s (.one (.v (.bool (a == b)))) T E:=d1y h1 h2
theorem zcn {a b:Int} (h1:¬a=b→T) (h2:a=b→E):a6s (.one (.v (.bool (a != b)))) T E:=d1z h1 h2
theorem zci {b:Bool} (h1:b=true→T) (h2:b=false→E):a6s (.one (.v (.bool b))) T E:=d5r h1 h2
theorem zes {ps:List Prop} {x r:AV} (hp:y8 ps) (h:Ax.Sub x r):d3t (some (ps,x)) r:=d2e hp h
end
section
variable {c:Ctx} {st:St}
theorem c7r {ops:Array Oper} {K:St→Prop} {ps:List Prop} {o:Oper} {rest:List Oper} {sh:List Sh} (hc:a0d c) {b n cc:Nat} {k:IntKind} {ls:List Int} {d:Int} {x y:Operand} {T:TypeId} {bytes:Nat} {zs:List Value} {g':Nat→List i7} {ro:Bool}
    (ho:Is (a4k o) (some (x,y,T))) (ht:Is (a1j c.tt T) (some (1,bytes,zs))) (hx:Is (a1o st.t x) (.one (.gr b 1 n cc))) (hy:Is (a1o st.t y) (.one (.row 1 1 g'))) (hg:Is (g' 0) [.v (.int k d)])
    (hbox:Is (st.h b) (some ⟨1,cc,a6k k ls,ro⟩)) (hb:Is (Nat.ble c.nb0 b) true) (hp:y8 ps) (hs:y8 [ls.length=n,n≤cc,n≤1000000000000,bytes≤100])
    (h:d3r fun c'=>n+1≤c'→t8 c.P c.G c.ns ops (a22 c ops K) (n9 c.tt c.ns ops rest (st.appI o.dst b (n+1) c' k (ls++ [d])) [] []) fun st' _=>K st'):a3i c.P c.G c.ns ops (a22 c ops K) (.hand ps o rest st sh) fun st' _=>K st':=c6t hc ho ht hx hy hg hbox hb hp hs h
theorem b8a {ops:Array Oper} {K:St→Prop} {ps:List Prop} {o:Oper} {rest:List Oper} {sh:List Sh} (hc:a0d c) {k:IntKind} {d:Int} {x y:Operand} {T:TypeId} {bytes:Nat} {zs:List Value} {g':Nat→List i7}
    (ho:Is (a4k o) (some (x,y,T))) (ht:Is (a1j c.tt T) (some (1,bytes,zs))) (hx:Is (a1o st.t x) (.one (.v (.slice none 0 0)))) (hy:Is (a1o st.t y) (.one (.row 1 1 g'))) (hg:Is (g' 0) [.v (.int k d)])
    (hb:Is (Nat.ble c.nb0 st.nb) true) (hp:y8 ps) (hs:y8 [bytes≤100])
    (h:d3r fun c'=>1≤c'→t8 c.P c.G c.ns ops (a22 c ops K) (n9 c.tt c.ns ops rest (st.appI o.dst st.nb 1 c' k [d]) [] []) fun st' _=>K st'):a3i c.P c.G c.ns ops (a22 c ops K) (.hand ps o rest st sh) fun st' _=>K st':=c3w hc ho ht hx hy hg hb hp hs h
end
end Go.Proofs
end
section
namespace Go.Proofs
open Go.Ax
class Stp (g:Prop) (p:outParam Prop):Prop where h:p→g
theorem zgo {g p:Prop} [s:Stp g p] (h:p):g:=s.h h
class St2 (g:Prop) (p q:outParam Prop):Prop where h:p→q→g
theorem zg2 {g p q:Prop} [s:St2 g p q] (h:p) (k:q):g:=s.h h k
class St3 (g:Prop) (a p A q B:outParam Prop):Prop where h:a→(p→A)→(q→B)→g
theorem zg3 {g a p A q B:Prop} [s:St3 g a p A q B] (x:a) (h:p→A) (k:q→B):g:=s.h x h k
class St4 (g:Prop) (p A q B:outParam Prop):Prop where h:(p→A)→(q→B)→g
theorem zg4 {g p A q B:Prop} [s:St4 g p A q B] (h:p→A) (k:q→B):g:=s.h h k
section
variable {c:Ctx} {Q:Exit→St→Prop} {st:St}
instance:Stp (Wp c .skip Q st) (Q .normal st):=⟨d7x⟩
instance:Stp (Wp c .ret Q st) (Q .ret st):=⟨e03⟩
instance {id:Nat}:Stp (Wp c (.exit id) Q st) (Q (.exit id) st):=⟨d7v⟩
instance {K:St→Prop}:Stp (Nxt K Q .normal st) (K st):=⟨c8s⟩
instance {K:St→Prop}:Stp (Nxt K Q .ret st) (Q .ret st):=⟨d8x⟩
instance {K:St→Prop} {id:Nat}:Stp (Nxt K Q (.exit id) st) (Q (.exit id) st):=⟨d6d⟩
instance {id:Nat}:Stp (Blk id Q .normal st) (Q .normal st):=⟨c7z⟩
instance {id:Nat}:Stp (Blk id Q .ret st) (Q .ret st):=⟨d74⟩
instance {id:Nat}:Stp (Blk id Q (.exit id) st) (Q .normal st):=⟨e06⟩
theorem zr0 {id:Nat} {ops:Array Oper} (hc:a0d c) (h:t8 c.P c.G c.ns ops (a22 c ops fun st'=>Q .normal st') (n9 c.tt c.ns ops ops.toList st [] []) fun st' _=>Q .normal st')
    (hnb:Nat.ble c.nb0 st.nb=true:=by kernel_rfl) (hd:c2g c.N ops=true:=by kernel_rfl):Wp c (.region id ops false) Q st:=b2u hc (Nat.le_of_ble_eq_true hnb) hd h
theorem zm0 {id:Nat} {ops:Array Oper} (hc:a0d c) (h:t8 c.P c.G c.ns ops (fun _ _ _ _=>False) (n9 c.tt c.ns ops ops.toList st [] []) fun st' sh=>b00 ops st.nb sh=true∧Q .normal st')
    (hm:c.P.follows .mixedOrders=true:=by exact mixed) (hnb:Nat.ble c.nb0 st.nb=true:=by kernel_rfl) (hd:b6m c.N ops=true:=by kernel_rfl):Wp c (.region id ops true) Q st:=c1n hc hm (Nat.le_of_ble_eq_true hnb) hd h
class NR (e:Exit):Prop where h:e= .normal∨e= .ret
instance:NR .normal:=⟨.inl rfl⟩
instance:NR .ret:=⟨.inr rfl⟩
theorem zge {fn:Func} {rs:Array ResultVar} {r:AV} {e:Exit} [s:NR e] (hr:fn.results=rs) (h:b6d (b0s c.tt st rs.toList [] []) r):Ax.Ends c fn r e st:=by
  rcases s.h with rfl|rfl
  · exact c6c hr h
  · exact c6d hr h
end
section
variable {T E:Prop}
instance:Stp (a6s (.one (.v (.bool true))) T E) T:=⟨zct⟩
instance:Stp (a6s (.one (.v (.bool false))) T E) E:=⟨zcf⟩
instance {p:Prop} {_:Decidable p}:St4 (a6s (.one (.v (.bool (decide p)))) T E) p T (¬p) E:=⟨zcd⟩
instance {a b:Int}:St4 (a6s (.one (.v (.bool (a == b)))) T E) (a=b) T (¬a=b) E:=⟨zce⟩
instance {a b:Int}:St4 (a6s (.one (.v (.bool (a != b)))) T E) (¬a=b) T (a=b) E:=⟨zcn⟩
instance (priority:=low) {b:Bool}:St4 (a6s (.one (.v (.bool b))) T E) (b=true) T (b=false) E:=⟨zci⟩
instance {ps:List Prop} {x r:AV}:St2 (d3t (some (ps,x)) r) (y8 ps) (Ax.Sub x r):=⟨zes⟩
instance {p:Prop} {ps:List Prop}:St2 (y8 (p :: ps)) p (y8 ps):=⟨f6⟩
end
section
variable {G':World→Prop} {nb0:Nat} {ops:Array Oper} {H:Oper→List Oper→St→List Sh→Prop} {K:St→List Sh→Prop} {ps:List Prop} {rest:List Oper} {st:St} {sh:List Sh} {o:Oper} {d:Nat}
instance {P:Program}:St2 (a3i P G' nb0 ops H (.done ps st sh) K) (y8 ps) (K st sh):=⟨zod⟩
instance:St2 (a3i Tryz.prog G' nb0 ops H (.guard ps true true d o rest st sh) K) (y8 ps) (t8 Tryz.prog G' nb0 ops H (a0c tt nb0 o rest st sh [] (n9 tt nb0 ops rest)) K):=⟨zott a1u⟩
instance:St2 (a3i Tryz.prog G' nb0 ops H (.guard ps false false d o rest st sh) K) (y8 ps) (t8 Tryz.prog G' nb0 ops H (a0c tt nb0 o rest st sh [] (n9 tt nb0 ops rest)) K):=⟨zoff a1u⟩
instance:St2 (a3i Tryz.prog G' nb0 ops H (.guard ps true false d o rest st sh) K) (y8 ps) (t8 Tryz.prog G' nb0 ops H (n9 tt nb0 ops rest (st.put o.dst (.tup [])) (sh++ [⟨[],none⟩]) []) K):=⟨zotf a1u⟩
instance:St2 (a3i Tryz.prog G' nb0 ops H (.guard ps false true d o rest st sh) K) (y8 ps) (t8 Tryz.prog G' nb0 ops H (n9 tt nb0 ops rest (st.put o.dst (.tup [])) (sh++ [⟨[],none⟩]) []) K):=⟨zoft a1u⟩
abbrev goT (G':World→Prop) (nb0:Nat) (ops:Array Oper) (H:Oper→List Oper→St→List Sh→Prop) (K:St→List Sh→Prop) (rest:List Oper) (st:St) (sh:List Sh) (o:Oper) (d:Nat) (b:Bool):Prop:=t8 Tryz.prog G' nb0 ops H (a0c tt nb0 o rest { st with t:=upd st.t d (.one (.v (.bool b))) } sh [] (n9 tt nb0 ops rest)) K
abbrev skT (G':World→Prop) (nb0:Nat) (ops:Array Oper) (H:Oper→List Oper→St→List Sh→Prop) (K:St→List Sh→Prop) (rest:List Oper) (st:St) (sh:List Sh) (o:Oper) (d:Nat) (b:Bool):Prop:=t8 Tryz.prog G' nb0 ops H (n9 tt nb0 ops rest (({ st with t:=upd st.t d (.one (.v (.bool b))) }:St).put o.dst (.tup [])) (sh++ [⟨[],none⟩]) []) K
instance {p:Prop} {_:Decidable p}:St3 (a3i Tryz.prog G' nb0 ops H (.guard ps (decide p) true d o rest st sh) K) (y8 ps) p (goT G' nb0 ops H K rest st sh o d true) (¬p) (skT G' nb0 ops H K rest st sh o d false):=⟨zoitd a1u⟩
instance {p:Prop} {_:Decidable p}:St3 (a3i Tryz.prog G' nb0 ops H (.guard ps (decide p) false d o rest st sh) K) (y8 ps) (¬p) (goT G' nb0 ops H K rest st sh o d false) p (skT G' nb0 ops H K rest st sh o d true):=⟨zoifd a1u⟩
instance {x y:Int}:St3 (a3i Tryz.prog G' nb0 ops H (.guard ps (x == y) true d o rest st sh) K) (y8 ps) (x=y) (goT G' nb0 ops H K rest st sh o d true) (¬x=y) (skT G' nb0 ops H K rest st sh o d false):=⟨zoite a1u⟩
instance {x y:Int}:St3 (a3i Tryz.prog G' nb0 ops H (.guard ps (x == y) false d o rest st sh) K) (y8 ps) (¬x=y) (goT G' nb0 ops H K rest st sh o d false) (x=y) (skT G' nb0 ops H K rest st sh o d true):=⟨zoife a1u⟩
instance {x y:Int}:St3 (a3i Tryz.prog G' nb0 ops H (.guard ps (x != y) true d o rest st sh) K) (y8 ps) (¬x=y) (goT G' nb0 ops H K rest st sh o d true) (x=y) (skT G' nb0 ops H K rest st sh o d false):=⟨zoitn a1u⟩
instance {x y:Int}:St3 (a3i Tryz.prog G' nb0 ops H (.guard ps (x != y) false d o rest st sh) K) (y8 ps) (x=y) (goT G' nb0 ops H K rest st sh o d false) (¬x=y) (skT G' nb0 ops H K rest st sh o d true):=⟨zoifn a1u⟩
instance (priority:=low) {b:Bool}:St3 (a3i Tryz.prog G' nb0 ops H (.guard ps b true d o rest st sh) K) (y8 ps) (b=true) (goT G' nb0 ops H K rest st sh o d true) (b=false) (skT G' nb0 ops H K rest st sh o d false):=⟨zoit a1u⟩
instance (priority:=low) {b:Bool}:St3 (a3i Tryz.prog G' nb0 ops H (.guard ps b false d o rest st sh) K) (y8 ps) (b=false) (goT G' nb0 ops H K rest st sh o d false) (b=true) (skT G' nb0 ops H K rest st sh o d true):=⟨zoif a1u⟩
end
theorem r8 {G':World→Prop} {f:FuncId} {fn:Func} {code:Code} {k:Nat} {args:List AV} {r:AV} (hf:Tryz.prog.funcs[f]?=some fn) (hb:fn.body=some code) (hn:fn.ntmps=k)
    (h:∀w0 E0,a0d ⟨Tryz.prog,tt,G',fn.ntmps,w0,E0,0,fun _=>False,0,[]⟩→Wp ⟨Tryz.prog,tt,G',fn.ntmps,w0,E0,0,fun _=>False,0,[]⟩ code (Ax.Ends ⟨Tryz.prog,tt,G',fn.ntmps,w0,E0,0,fun _=>False,0,[]⟩ fn r) ⟨a8a args,a67,0⟩)
    (hG:∀w w',Go.RowKit.Below w.heap.size w w'→G' w→G' w':=by first|exact b1z|exact fun _ _ _ _=>trivial)
    (ha:clV 0 args:=by simp [clV,AV.cl,clL,i7.cl]) (hr:r.cl 0:=by simp [AV.cl,clL,i7.cl,clV]) (hl:Nat.ble args.length k=true:=by exact rfl) (hname:(fn.name == "runtime.NumGoroutine")=false:=by kernel_rfl):Ax.Pure Tryz.prog G' f args r:=
  c0g a1u hf hb hname hG ⟨ha,hr⟩ (hn ▸ Nat.le_of_ble_eq_true hl) h
end Go.Proofs
end
