/- Lemmas on the program and its library: part Z12. -/
import Derived.KernelRfl
import Derived.Lib.ItoaNum
import Derived.Test.YtoiejgkkcfkliaaGreatDoorProg
import Derived.Test.YtoiejgkkcfkliaaGreatDoorZ11
set_option linter.unusedVariables false
set_option linter.unusedSimpArgs false
section
namespace Go.Ax
def frzL (b:Nat) (ls:List Leaf):Leaf→Leaf
  | .ptr b' sz i o => match Nat.beq b' b with
    | true => match Nat.beq i 0, dropL ls o with
      | true,some r=>.pp r
      | _,_=>.u
    | false=>.ptr b' sz i o
  | .own b' sz i m c => match Nat.beq b' b with
    | true=>.u
    | false=>.own b' sz i m c
  | .gr b' sz m c => match Nat.beq b' b with
    | true=>.u
    | false=>.gr b' sz m c
  | .fn f xs ys=>.fn f (frzLs b ls xs) (frzLs b ls ys)
  | l=>l
where frzLs (b:Nat) (ls:List Leaf):List Leaf→List Leaf
  | []=> []
  | l :: r=>frzL b ls l :: frzLs b ls r
mutual
def frz (b:Nat) (ls:List Leaf):AV→AV
  | .one l=>.one (frzL b ls l)
  | .agg xs=>.agg (frzL.frzLs b ls xs)
  | .tup xs=>.tup (frzs b ls xs)
  | .u=>.u
def frzs (b:Nat) (ls:List Leaf):List AV→List AV
  | []=> []
  | x :: xs=>frz b ls x :: frzs b ls xs
end
def frzBox (b:Nat) (ls:List Leaf) (bx:Box):Box:={ bx with g:=fun i=>frzL.frzLs b ls (bx.g i) }
def hfrz (h:Nat→Option Box) (b:Nat) (ls:List Leaf) (x:Nat):Option Box:=match Nat.beq x b with
  | true=>none
  | false=>(h x).map (frzBox b ls)
section
variable {E:Env} {w:World} {b kb:Nat} {ls:List Leaf} {es:List Value}
theorem into_drop:Into 0 E (E.drop b) w:=⟨fun _ _ h=>absurd h (Nat.not_lt_zero _),fun _ h=>drop_ok h⟩
mutual
theorem frzL_R (hb:E.ρ b=some kb) (hok:(E.drop b).ok w kb) (hls:LeavesR (E.drop b).shut w ls es) (hr:w.rangeAt kb 0 es):∀{l:Leaf} {cs:List Value},l.R E w cs→(frzL b ls l).R (E.drop b) w cs
  | .ptr b' sz i o, cs, h => by
    obtain ⟨j,h1,rfl⟩:=h
    simp only [frzL]
    split
    · rename_i e
      have e:=Nat.eq_of_beq_eq_true e
      subst e
      rw [hb] at h1;cases h1
      split
      · rename_i r hi hd
        have hi:=Nat.eq_of_beq_eq_true hi
        subst hi
        refine ⟨kb,o,es.drop o,by simp,hok,dropL_R hls hd,?_⟩
        intro d v hv
        rw [List.getElem?_drop] at hv
        have:=hr _ _ hv
        rwa [Nat.zero_add] at this
      · exact ⟨_,rfl,rfl⟩
    · rename_i e;exact ⟨j,by simp [Env.drop,beq_false e,h1],rfl⟩
  | .own b' sz i m c, cs, h => by
    obtain ⟨j,h1,rfl⟩:=h
    simp only [frzL]
    split
    · exact ⟨_,rfl,rfl⟩
    · rename_i e;exact ⟨j,by simp [Env.drop,beq_false e,h1],rfl⟩
  | .gr b' sz m c, cs, h => by
    simp only [frzL]
    split
    · rcases h with ⟨rfl,rfl,rfl⟩|⟨j,h1,rfl⟩<;> exact ⟨_,rfl,rfl⟩
    · rename_i e
      rcases h with h|⟨j,h1,rfl⟩
      · exact .inl h
      · exact .inr ⟨j,by simp [Env.drop,beq_false e,h1],rfl⟩
  | .fn f a c, cs, h => by
    obtain ⟨xs,ys,rfl,h1,h2⟩:=h
    exact ⟨xs,ys,rfl,frzLs_R hb hok hls hr h1,frzLs_R hb hok hls hr h2⟩
  | .v x,cs,h=>(into_drop (b:=b)).leaf (l:=.v x) trivial h
  | .u,cs,h=>(into_drop (b:=b)).leaf (l:=.u) trivial h
  | .pp x,cs,h=>(into_drop (b:=b)).leaf (l:=.pp x) trivial h
  | .int z,cs,h=>(into_drop (b:=b)).leaf (l:=.int z) trivial h
  | .frac q,cs,h=>(into_drop (b:=b)).leaf (l:=.frac q) trivial h
  | .rint z,cs,h=>(into_drop (b:=b)).leaf (l:=.rint z) trivial h
  | .ints k l,cs,h=>(into_drop (b:=b)).leaf (l:=.ints k l) trivial h
  | .nn k l,cs,h=>(into_drop (b:=b)).leaf (l:=.nn k l) trivial h
  | .row sz n g,cs,h=>(into_drop (b:=b)).leaf (l:=.row sz n g) trivial h
theorem frzLs_R (hb:E.ρ b=some kb) (hok:(E.drop b).ok w kb) (hls:LeavesR (E.drop b).shut w ls es) (hr:w.rangeAt kb 0 es):∀{xs:List Leaf} {cs:List Value},LeavesR E w xs cs→LeavesR (E.drop b) w (frzL.frzLs b ls xs) cs
  | [],_,h=>h
  | _ :: _,_,h=>by obtain ⟨xs,ys,a,c,d⟩:=h;exact ⟨xs,ys,a,frzL_R hb hok hls hr c,frzLs_R hb hok hls hr d⟩
end
theorem frzL_size (l:Leaf):(frzL b ls l).size=l.size:=by
  cases l <;> simp only [frzL] <;> (repeat' split) <;> rfl
theorem sizes_frz:∀(xs:List Leaf),sizes (frzL.frzLs b ls xs)=sizes xs
  | []=>rfl
  | l :: xs=>by simp only [frzL.frzLs,sizes,frzL_size,sizes_frz xs]
mutual
theorem frz_R (hb:E.ρ b=some kb) (hok:(E.drop b).ok w kb) (hls:LeavesR (E.drop b).shut w ls es) (hr:w.rangeAt kb 0 es):∀{x:AV} {v:Value},RV E w x v→RV (E.drop b) w (frz b ls x) v
  | .one _,_,h=>⟨by rw [frzL_size];exact h.1,frzL_R hb hok hls hr h.2⟩
  | .agg _,_,h=>by obtain ⟨cs,a,c⟩:=h;exact ⟨cs,a,frzLs_R hb hok hls hr c⟩
  | .tup _,_,h=>by obtain ⟨vs,a,c⟩:=h;exact ⟨vs,a,frzs_R hb hok hls hr c⟩
  | .u,_,_=>trivial
theorem frzs_R (hb:E.ρ b=some kb) (hok:(E.drop b).ok w kb) (hls:LeavesR (E.drop b).shut w ls es) (hr:w.rangeAt kb 0 es):∀{xs:List AV} {vs:List Value},RVs E w xs vs→RVs (E.drop b) w (frzs b ls xs) vs
  | [],_,h=>h
  | _ :: _,_,h=>by obtain ⟨v,r,a,c,d⟩:=h;exact ⟨v,r,a,frz_R hb hok hls hr c,frzs_R hb hok hls hr d⟩
end
end
variable {c:Ctx} {Q:Exit→St→Prop} {st:St}
theorem drop_own (hc:CtxOk c) {b kb:Nat} (hb0:c.nb0≤b) {E:Env} {a:Act} {w:World} (s:SR c st E a w) (h1:E.ρ b=some kb):(E.drop b).ok w kb:=by
  have hown:=s.own b kb (Nat.le_trans hc.ns hb0) h1
  refine ⟨s.env.r _ _ h1,fun hM=>?_,fun x hx=>?_⟩
  · have hM:E.M kb:=hM
    rw [s.m] at hM
    have:=hc.m kb hM
    rcases hown with hown|hown
    · omega
    · exact hown.2 hM
  · by_cases e:x=b
    · simp [Env.drop,e] at hx
    · simp [Env.drop,e] at hx;exact e (s.env.inj _ _ _ hx h1)
theorem drop_sr (_hc:CtxOk c) {b:Nat} (hb0:c.nb0≤b) {E:Env} {a:Act} {w:World} (s:SR c st E a w) {st':St} (ht:∀m,RV (E.drop b) w (st'.t m) (a.tmps.getD m undef)) (hh:∀x bx,st'.h x=some bx→BoxR (E.drop b) w x bx) (hn:st'.nb=st.nb):SR c st' (E.drop b) a w:=by
  refine ⟨s.size,s.defers,ht,hh,⟨s.env.m,fun x j hj=>?_,fun x y j hx hy=>?_⟩,s.below,fun x j hx0 hj=>?_,fun x hx=>?_,s.m,fun x hx=>?_⟩
  · by_cases e:x=b
    · simp [Env.drop,e] at hj
    · simp [Env.drop,e] at hj;exact s.env.r _ _ hj
  · by_cases e:x=b
    · simp [Env.drop,e] at hx
    · by_cases e':y=b
      · simp [Env.drop,e'] at hy
      · simp [Env.drop,e] at hx;simp [Env.drop,e'] at hy;exact s.env.inj _ _ _ hx hy
  · by_cases e:x=b
    · simp [Env.drop,e] at hj
    · simp [Env.drop,e] at hj;exact s.own x j hx0 hj
  · have:x≠b:=by omega
    simp [Env.drop,this,s.low x hx]
  · have hx:st'.nb≤x:=hx
    by_cases e:x=b
    · simp [Env.drop,e]
    · simp [Env.drop,e];exact s.free x (by show st.nb≤x;omega)
theorem Wp_frzP {code:Code} (hc:CtxOk c) (b:Nat) {sz:Nat} {g:Nat→List Leaf} {ro:Bool} (hbx:Is (st.h b) (some ⟨sz,1,g,ro⟩)) (hcl:clL 0 (g 0)) (hb:Nat.ble c.nb0 b=true)
    (h:Wp c code Q ⟨fun m=>frz b (g 0) (st.t m),hfrz st.h b (g 0),st.nb⟩):Wp c code Q st:=by
  intro E a w s
  have hb0:=Nat.le_of_ble_eq_true hb
  rcases s.boxes b _ hbx with ⟨_,q⟩|⟨kb,cs,T,h1,h2,h3,h4⟩
  · cases q
  obtain ⟨es,h5,h6,h7⟩:=h4 0 Nat.zero_lt_one
  have hok:=drop_own hc hb0 s h1
  have hls:LeavesR (E.drop b).shut w (g 0) es:=(into_shut (E.drop b) w).leaves hcl (into_drop.leaves hcl h6)
  have hr:w.rangeAt kb 0 es:=fun j v hv=>by
    rw [cell_of_row w kb _ cs T (0,0) h2]
    have:=h7 j v hv
    simpa using this
  refine h (E.drop b) a w (drop_sr hc hb0 s (fun m=>frz_R h1 hok hls hr (s.slots m)) (fun x bx' hx=>?_) rfl)
  have hx:hfrz st.h b (g 0) x=some bx':=hx
  unfold hfrz at hx
  split at hx
  · cases hx
  · rename_i e
    have e:=beq_false e
    simp only [Option.map_eq_some_iff] at hx
    obtain ⟨bx1,hx2,rfl⟩:=hx
    rcases s.boxes x bx1 hx2 with g0|⟨kx,cx,Tx,g1,g2,g3,g4⟩
    · exact .inl g0
    refine .inr ⟨kx,cx,Tx,by simp [Env.drop,e,g1],g2,g3,fun i hi=>?_⟩
    obtain ⟨es',g5,g6,g7⟩:=g4 i hi
    exact ⟨es',by simp only [frzBox,sizes_frz];exact g5,frzLs_R h1 hok hls hr g6,g7⟩
theorem frzR_sr (hc:CtxOk c) (b s n cc sz:Nat) (g:Nat→List Leaf) (l:List (Nat×AV)) (hs:List (Nat×Box)) (nb:Nat)
    (hb:Nat.ble c.nb0 b=true) (hcc:n≤cc) (hcl:∀i,i < n→clL 0 (g i)) (hl:∀p∈l,p.1≠s∧kill b p.2=p.2) (hh:∀p∈hs,p.1≠b∧killBox b p.2=p.2)
    {E:Env} {a:Act} {w:World} (sr:SR c (stOf ((s,.one (.gr b sz n cc)) :: l) ((b,⟨sz,cc,g,true⟩) :: hs) nb) E a w):SR c (stOf ((s,.one (.row sz n g)) :: l) hs nb) (E.drop b) a w:=by
  have hb0:=Nat.le_of_ble_eq_true hb
  have hkill:∀{x:AV} {v:Value},RV E w x v→RV (E.drop b) w (kill b x) v:=fun {x v} hx=>by
    have hk:Keeps (E.hide b) w (E.drop b) w:=⟨fun x k h=>h,fun k h=>drop_ok (hide_ok.1 h),fun _ _=>rfl⟩
    exact hk.rv (kill_R hx)
  have hkills:∀{xs:List Leaf} {cs:List Value},LeavesR E w xs cs→LeavesR (E.drop b) w (xs.map (killL b)) cs:=fun {xs cs} hx=>by
    have hk:Keeps (E.hide b) w (E.drop b) w:=⟨fun x k h=>h,fun k h=>drop_ok (hide_ok.1 h),fun _ _=>rfl⟩
    exact hk.leaves (killLs_R hx)
  have hslot:∀m,m≠s→∀v,RV E w (slots l m) v→RV (E.drop b) w (slots l m) v:=by
    intro m _ v hv
    have e:kill b (slots l m)=slots l m:=by
      clear hv sr
      induction l with
      | nil=>rfl
      | cons p l ih =>
        simp only [slots,slotL]
        split
        · exact (hl p (by simp)).2
        · exact ih fun q hq=>hl q (by simp [hq])
    rw [←e];exact hkill hv
  have hbox:∀x bx,boxes hs x=some bx→x≠b∧killBox b bx=bx:=by
    intro x bx hx
    clear sr
    induction hs with
    | nil=>cases hx
    | cons p r ih =>
      simp only [boxes,boxL] at hx
      split at hx
      · rename_i e
        cases hx
        rw [Nat.eq_of_beq_eq_true e]
        exact hh p (by simp)
      · exact ih (fun q hq=>hh q (by simp [hq])) hx
  refine drop_sr hc hb0 sr (fun m=>?_) (fun x bx hx=>?_) rfl
  · have hm:=sr.slots m
    simp only [stOf,slots,slotL] at hm ⊢
    cases e:Nat.beq m s with
    | true =>
      rw [e] at hm
      obtain ⟨_,hm⟩:=hm
      refine ⟨rfl,?_⟩
      rcases hm with ⟨rfl,rfl,hm⟩|⟨k,h1,hm⟩
      · exact .inl ⟨rfl,hm⟩
      · refine .inr ⟨k,0,cc,hm,drop_own hc hb0 sr h1,hcc,fun i hi=>?_⟩
        rcases sr.boxes b ⟨sz,cc,g,true⟩ (by simp [stOf,boxes,boxL]) with ⟨_,q⟩|⟨kb,cs,T,g1,g2,g3,g4⟩
        · have q:cc=0:=q
          omega
        rw [h1] at g1;cases g1
        obtain ⟨es,q1,q2,q3⟩:=g4 i (by show i < cc;omega)
        refine ⟨es,q1,(into_shut (E.drop b) w).leaves (hcl i hi) (into_drop.leaves (hcl i hi) q2),fun j v hv=>?_⟩
        rw [Nat.zero_add,cell_of_row w k _ cs T (0,0) g2]
        exact q3 j v hv
    | false =>
      rw [e] at hm
      exact hslot m (beq_false e) _ hm
  · have hx:boxes hs x=some bx:=hx
    obtain ⟨e,hkb⟩:=hbox x bx hx
    have hx':(stOf ((s,.one (.gr b sz n cc)) :: l) ((b,⟨sz,cc,g,true⟩) :: hs) nb).h x=some bx:=by
      simp only [stOf,boxes,boxL]
      cases e1:Nat.beq x b with
      | true=>exact absurd (Nat.eq_of_beq_eq_true e1) e
      | false=>exact hx
    rcases sr.boxes x bx hx' with g0|⟨kx,cx,Tx,g1,g2,g3,g4⟩
    · exact .inl g0
    refine .inr ⟨kx,cx,Tx,by simp [Env.drop,e,g1],g2,g3,fun i hi=>?_⟩
    obtain ⟨es,g5,g6,g7⟩:=g4 i hi
    refine ⟨es,g5,?_,g7⟩
    have:bx.g i=(bx.g i).map (killL b):=by
      have:=congrArg (fun b=>b.g i) hkb
      simpa [killBox] using this.symm
    rw [this];exact hkills g6
theorem Wp_frzR {code:Code} (hc:CtxOk c) (b s n cc sz:Nat) (g:Nat→List Leaf) (l:List (Nat×AV)) (hs:List (Nat×Box)) (nb:Nat)
    (hw:Weaker c.nb0 st (stOf ((s,.one (.gr b sz n cc)) :: l) ((b,⟨sz,cc,g,true⟩) :: hs) nb))
    (hb:Nat.ble c.nb0 b=true) (hcc:n≤cc) (hcl:∀i,i < n→clL 0 (g i)) (hl:∀p∈l,p.1≠s∧kill b p.2=p.2) (hh:∀p∈hs,p.1≠b∧killBox b p.2=p.2)
    (h:Wp c code Q (stOf ((s,.one (.row sz n g)) :: l) hs nb)):Wp c code Q st:=by
  refine Wp_weaker hw ?_
  exact fun E a w sr=>h _ a w (frzR_sr hc b s n cc sz g l hs nb hb hcc hcl hl hh sr)
theorem outK_re {ops:Array Oper} {K:St→Prop} {ps:List Prop} {f:FuncId} {xs:List AV} {dst:Option Tmp} {rest:List Oper} {st2:St} {sh:List Sh} (hc:CtxOk c) (o:Oper) (ho:ops.toList.drop (ops.size - 1 - rest.length)=o :: rest) (hp:AllP ps)
    (hnb:c.nb0≤st2.nb) (hsr:∀E a w,SR c st E a w→∃E',SR c st2 E' a w)
    (h:OutK c.P c.G c.ns ops (HandS c ops K) (absGo c.tt c.ns ops (o :: rest) st2 [] []) fun st' _=>K st'):OutK c.P c.G c.ns ops (HandS c ops K) (.call ps f xs dst rest st sh) fun st' _=>K st':=by
  refine outK_otherc hp fun o' _ _=>?_
  intro k _ hk hr hlen hok Q' hQ E a w s _
  have e:ops.size - 1 - rest.length=k:=by omega
  rw [e] at ho
  have ho2:ops[k]?=some o:=by
    have:=congrArg (fun l:List Oper=>l[0]?) ho
    simpa using this
  rw [hk] at ho2
  cases ho2
  obtain ⟨E',s'⟩:=hsr E a w s
  exact seq_runK hc (absGo_sound hc.tt _ _ _ _ h).2 (fun j=>by
    cases j with
    | zero=>exact hk.symm
    | succ j=>rw [List.getElem?_cons_succ,hr j];congr 1;omega) (by rw [List.length_cons];omega) hnb hok Q' hQ E' a w s'
theorem outK_frz {ops:Array Oper} {K:St→Prop} {ps:List Prop} {f:FuncId} {xs:List AV} {dst:Option Tmp} {rest:List Oper} {sh:List Sh} (hc:CtxOk c) (o:Oper) (b s n cc sz:Nat) (g:Nat→List Leaf) (l:List (Nat×AV)) (hs:List (Nat×Box)) (nb:Nat)
    (hw:Weaker c.nb0 st (stOf ((s,.one (.gr b sz n cc)) :: l) ((b,⟨sz,cc,g,true⟩) :: hs) nb))
    (ho:ops.toList.drop (ops.size - 1 - rest.length)=o :: rest) (hp:AllP ps)
    (hb:Nat.ble c.nb0 b=true) (hcc:n≤cc) (hcl:∀i,i < n→clL 0 (g i)) (hl:∀p∈l,p.1≠s∧kill b p.2=p.2) (hh:∀p∈hs,p.1≠b∧killBox b p.2=p.2) (hnb:Nat.ble c.nb0 nb=true)
    (h:OutK c.P c.G c.ns ops (HandS c ops K) (absGo c.tt c.ns ops (o :: rest) (stOf ((s,.one (.row sz n g)) :: l) hs nb) [] []) fun st' _=>K st'):OutK c.P c.G c.ns ops (HandS c ops K) (.call ps f xs dst rest st sh) fun st' _=>K st':=
  outK_re hc o ho hp (Nat.le_of_ble_eq_true hnb) (fun E a w sr=>⟨_,frzR_sr hc b s n cc sz g l hs nb hb hcc hcl hl hh (hw.sr sr)⟩) h
theorem Wp_frzC {code:Code} (hc:CtxOk c) (b s n cc:Nat) (hcc:n≤cc) (k:IntKind) (ls:List Int) (l:List (Nat×AV)) (hs:List (Nat×Box)) (nb:Nat) (l':List (Nat×AV)) (hs':List (Nat×Box))
    (hw:Weaker c.nb0 st (stOf ((s,.one (.own b 1 0 n cc)) :: l) ((b,⟨1,n,fun i=> [.v (.int k (ls.getD i 0))],false⟩) :: hs) nb))
    (hb:c.nb0≤b) (hn:ls.length=n)
    (hl:l.map (fun p=>(p.1,thaw b k n (fun i=>ls.getD i 0) p.2))=l') (hh:hs.map (fun p=>(p.1,thawBox b k n (fun i=>ls.getD i 0) p.2))=hs') (hnb:∀p∈hs,p.1≠b)
    (h:Wp c code Q (stOf ((s,.one (.ints k ls)) :: l') hs' nb)):Wp c code Q st:=by
  refine Wp_weaker hw ?_
  refine Wp_freeze hc b hb (bx:=⟨1,n,fun i=> [.v (.int k (ls.getD i 0))],false⟩) (by simp [stOf,boxes,boxL]) rfl k (fun i=>ls.getD i 0) (fun i _=>rfl) ?_
  have e:(List.range n).map (fun j=>ls.getD (0+j) 0)=ls:=by
    subst hn
    apply List.ext_getElem
    · simp
    · intro i h1 h2;simp [h2]
  have et:(⟨fun m=>thaw b k n (fun i=>ls.getD i 0) ((stOf ((s,.one (.own b 1 0 n cc)) :: l) ((b,⟨1,n,fun i=> [.v (.int k (ls.getD i 0))],false⟩) :: hs) nb).t m),fun x=>if x=b then none else ((stOf ((s,.one (.own b 1 0 n cc)) :: l) ((b,⟨1,n,fun i=> [.v (.int k (ls.getD i 0))],false⟩) :: hs) nb).h x).map (thawBox b k n (fun i=>ls.getD i 0)),nb⟩:St)=stOf ((s,.one (.ints k ls)) :: l') hs' nb:=by
    simp only [stOf,St.mk.injEq,and_true]
    refine ⟨?_,?_⟩
    · funext m
      rw [slots_thaw,List.map_cons,hl]
      simp only [thaw,thawL,if_true,Nat.zero_add,Nat.le_refl,and_self,hcc]
      have e':(List.range n).map (fun j=>ls.getD j 0)=ls:=by simpa using e
      rw [e']
    · funext x
      by_cases hx:x=b
      · subst hx
        rw [if_pos rfl]
        have:∀(q:List (Nat×Box)),(∀p∈q,p.1≠x)→boxes q x=none:=by
          intro q
          induction q with
          | nil=>intro _;rfl
          | cons p q ih =>
            intro hq
            have h1:=hq p (List.mem_cons_self ..)
            simp only [boxes,boxL]
            cases e1:Nat.beq x p.1 with
            | true=>exact absurd (Nat.eq_of_beq_eq_true e1).symm h1
            | false=>exact ih fun p hp=>hq p (List.mem_cons_of_mem _ hp)
        rw [this]
        intro p hp
        rw [←hh] at hp
        obtain ⟨q,hq,rfl⟩:=List.mem_map.1 hp
        exact hnb q hq
      · rw [if_neg hx]
        have:boxes ((b,⟨1,n,fun i=> [.v (.int k (ls.getD i 0))],false⟩) :: hs) x=boxes hs x:=by
          simp only [boxes,boxL]
          cases e1:Nat.beq x b with
          | true=>exact absurd (Nat.eq_of_beq_eq_true e1) hx
          | false=>rfl
        rw [this,boxes_thaw,hh]
  rw [←et] at h
  exact h
-- axioms of Wp_frzC
-- axioms of Wp_frzP
-- axioms of Wp_frzR
end Go.Ax
end
section
namespace Go.Proofs
open Go.Ax
abbrev ti3:TyI:={ size:=1,bytes:=8,agg:=false,kind:=.int .i64,zero:=some [.int .i64 0],flat:=some [.int .i64] }
abbrev ti4:TyI:={ size:=1,bytes:=1,agg:=false,kind:=.bool,zero:=some [.bool false],flat:=some [.bool] }
abbrev ti5:TyI:={ size:=1,bytes:=1,agg:=false,kind:=.int .u8,zero:=some [.int .u8 0],flat:=some [.int .u8] }
abbrev ti9:TyI:={ size:=1,bytes:=16,agg:=false,kind:=.string,zero:=some [.string ⟨#[]⟩],flat:=some [.string] }
abbrev ti21:TyI:={ size:=1,bytes:=4,agg:=false,kind:=.int .i32,zero:=some [.int .i32 0],flat:=some [.int .i32] }
abbrev ti24:TyI:={ size:=1,bytes:=8,agg:=false,kind:=.int .i64,zero:=some [.int .i64 0],flat:=some [.int .i64] }
abbrev ti26:TyI:={ size:=1,bytes:=16,agg:=false,kind:=.string,zero:=some [.string ⟨#[]⟩],flat:=some [.string] }
abbrev ti37:TyI:={ size:=3,bytes:=48,agg:=true,kind:=.array 3 26 1,zero:=some [.string ⟨#[]⟩,.string ⟨#[]⟩,.string ⟨#[]⟩],flat:=some [.string,.string,.string] }
abbrev ti39:TyI:={ size:=12,bytes:=192,agg:=true,kind:=.struct [(0,3,true),(3,3,true),(6,3,true),(9,3,true)],zero:=some [.string ⟨#[]⟩,.string ⟨#[]⟩,.string ⟨#[]⟩,.string ⟨#[]⟩,.string ⟨#[]⟩,.string ⟨#[]⟩,.string ⟨#[]⟩,.string ⟨#[]⟩,.string ⟨#[]⟩,.string ⟨#[]⟩,.string ⟨#[]⟩,.string ⟨#[]⟩],flat:=some [.string,.string,.string,.string,.string,.string,.string,.string,.string,.string,.string,.string] }
abbrev ti40:TyI:={ size:=3,bytes:=24,agg:=true,kind:=.array 3 3 1,zero:=some [.int .i64 0,.int .i64 0,.int .i64 0],flat:=some [.int .i64,.int .i64,.int .i64] }
abbrev ti42:TyI:={ size:=4,bytes:=40,agg:=true,kind:=.struct [(0,3,true),(3,1,false)],zero:=some [.int .i64 0,.int .i64 0,.int .i64 0,.string ⟨#[]⟩],flat:=some [.int .i64,.int .i64,.int .i64,.string] }
abbrev ti80:TyI:={ size:=4,bytes:=64,agg:=true,kind:=.array 4 26 1,zero:=some [.string ⟨#[]⟩,.string ⟨#[]⟩,.string ⟨#[]⟩,.string ⟨#[]⟩],flat:=some [.string,.string,.string,.string] }
abbrev ti86:TyI:={ size:=1,bytes:=24,agg:=false,kind:=.slice 26 1,zero:=some [.slice none 0 0],flat:=none }
abbrev ti93:TyI:={ size:=6,bytes:=96,agg:=true,kind:=.array 2 37 3,zero:=some [.string ⟨#[]⟩,.string ⟨#[]⟩,.string ⟨#[]⟩,.string ⟨#[]⟩,.string ⟨#[]⟩,.string ⟨#[]⟩],flat:=some [.string,.string,.string,.string,.string,.string] }
abbrev ti101:TyI:={ size:=9,bytes:=144,agg:=true,kind:=.array 3 37 3,zero:=some [.string ⟨#[]⟩,.string ⟨#[]⟩,.string ⟨#[]⟩,.string ⟨#[]⟩,.string ⟨#[]⟩,.string ⟨#[]⟩,.string ⟨#[]⟩,.string ⟨#[]⟩,.string ⟨#[]⟩],flat:=some [.string,.string,.string,.string,.string,.string,.string,.string,.string] }
abbrev ti102:TyI:={ size:=12,bytes:=120,agg:=true,kind:=.array 3 42 4,zero:=some [.int .i64 0,.int .i64 0,.int .i64 0,.string ⟨#[]⟩,.int .i64 0,.int .i64 0,.int .i64 0,.string ⟨#[]⟩,.int .i64 0,.int .i64 0,.int .i64 0,.string ⟨#[]⟩],flat:=some [.int .i64,.int .i64,.int .i64,.string,.int .i64,.int .i64,.int .i64,.string,.int .i64,.int .i64,.int .i64,.string] }
abbrev ti104:TyI:={ size:=21,bytes:=264,agg:=true,kind:=.struct [(0,9,true),(9,12,true)],zero:=some [.string ⟨#[]⟩,.string ⟨#[]⟩,.string ⟨#[]⟩,.string ⟨#[]⟩,.string ⟨#[]⟩,.string ⟨#[]⟩,.string ⟨#[]⟩,.string ⟨#[]⟩,.string ⟨#[]⟩,.int .i64 0,.int .i64 0,.int .i64 0,.string ⟨#[]⟩,.int .i64 0,.int .i64 0,.int .i64 0,.string ⟨#[]⟩,.int .i64 0,.int .i64 0,.int .i64 0,.string ⟨#[]⟩],flat:=some [.string,.string,.string,.string,.string,.string,.string,.string,.string,.int .i64,.int .i64,.int .i64,.string,.int .i64,.int .i64,.int .i64,.string,.int .i64,.int .i64,.int .i64,.string] }
abbrev ti125:TyI:={ size:=12,bytes:=192,agg:=true,kind:=.array 4 37 3,zero:=some [.string ⟨#[]⟩,.string ⟨#[]⟩,.string ⟨#[]⟩,.string ⟨#[]⟩,.string ⟨#[]⟩,.string ⟨#[]⟩,.string ⟨#[]⟩,.string ⟨#[]⟩,.string ⟨#[]⟩,.string ⟨#[]⟩,.string ⟨#[]⟩,.string ⟨#[]⟩],flat:=some [.string,.string,.string,.string,.string,.string,.string,.string,.string,.string,.string,.string] }
abbrev ti143:TyI:={ size:=1,bytes:=24,agg:=false,kind:=.slice 248 1,zero:=some [.slice none 0 0],flat:=none }
abbrev ti145:TyI:={ size:=2,bytes:=32,agg:=true,kind:=.struct [(0,1,false),(1,1,false)],zero:=some [.int .i64 0,.slice none 0 0],flat:=none }
abbrev ti150:TyI:={ size:=1,bytes:=24,agg:=false,kind:=.slice 3 1,zero:=some [.slice none 0 0],flat:=none }
abbrev ti152:TyI:={ size:=2,bytes:=32,agg:=true,kind:=.struct [(0,1,false),(1,1,false)],zero:=some [.bool false,.slice none 0 0],flat:=none }
abbrev ti161:TyI:={ size:=4,bytes:=64,agg:=true,kind:=.struct [(0,2,true),(2,2,true)],zero:=some [.int .i64 0,.slice none 0 0,.int .i64 0,.slice none 0 0],flat:=none }
abbrev ti172:TyI:={ size:=12,bytes:=192,agg:=true,kind:=.array 3 161 4,zero:=some [.int .i64 0,.slice none 0 0,.int .i64 0,.slice none 0 0,.int .i64 0,.slice none 0 0,.int .i64 0,.slice none 0 0,.int .i64 0,.slice none 0 0,.int .i64 0,.slice none 0 0],flat:=none }
abbrev ti173:TyI:={ size:=12,bytes:=192,agg:=true,kind:=.array 3 161 4,zero:=some [.int .i64 0,.slice none 0 0,.int .i64 0,.slice none 0 0,.int .i64 0,.slice none 0 0,.int .i64 0,.slice none 0 0,.int .i64 0,.slice none 0 0,.int .i64 0,.slice none 0 0],flat:=none }
abbrev ti175:TyI:={ size:=16,bytes:=256,agg:=true,kind:=.struct [(0,12,true),(12,4,true)],zero:=some [.int .i64 0,.slice none 0 0,.int .i64 0,.slice none 0 0,.int .i64 0,.slice none 0 0,.int .i64 0,.slice none 0 0,.int .i64 0,.slice none 0 0,.int .i64 0,.slice none 0 0,.int .i64 0,.slice none 0 0,.int .i64 0,.slice none 0 0],flat:=none }
abbrev ti177:TyI:={ size:=48,bytes:=768,agg:=true,kind:=.struct [(0,12,true),(12,12,true),(24,12,true),(36,12,true)],zero:=some [.int .i64 0,.slice none 0 0,.int .i64 0,.slice none 0 0,.int .i64 0,.slice none 0 0,.int .i64 0,.slice none 0 0,.int .i64 0,.slice none 0 0,.int .i64 0,.slice none 0 0,.int .i64 0,.slice none 0 0,.int .i64 0,.slice none 0 0,.int .i64 0,.slice none 0 0,.int .i64 0,.slice none 0 0,.int .i64 0,.slice none 0 0,.int .i64 0,.slice none 0 0,.int .i64 0,.slice none 0 0,.int .i64 0,.slice none 0 0,.int .i64 0,.slice none 0 0,.int .i64 0,.slice none 0 0,.int .i64 0,.slice none 0 0,.int .i64 0,.slice none 0 0,.int .i64 0,.slice none 0 0,.int .i64 0,.slice none 0 0,.int .i64 0,.slice none 0 0,.int .i64 0,.slice none 0 0,.int .i64 0,.slice none 0 0,.int .i64 0,.slice none 0 0],flat:=none }
abbrev ti183:TyI:={ size:=1,bytes:=24,agg:=false,kind:=.slice 37 3,zero:=some [.slice none 0 0],flat:=none }
abbrev ti224:TyI:={ size:=1,bytes:=16,agg:=false,kind:=.other,zero:=some [.nilIface],flat:=none }
abbrev ti230:TyI:={ size:=1,bytes:=8,agg:=false,kind:=.int .u64,zero:=some [.int .u64 0],flat:=some [.int .u64] }
abbrev ti237:TyI:={ size:=1,bytes:=24,agg:=false,kind:=.slice 24 1,zero:=some [.slice none 0 0],flat:=none }
abbrev ti242:TyI:={ size:=36,bytes:=576,agg:=true,kind:=.array 3 173 12,zero:=some [.int .i64 0,.slice none 0 0,.int .i64 0,.slice none 0 0,.int .i64 0,.slice none 0 0,.int .i64 0,.slice none 0 0,.int .i64 0,.slice none 0 0,.int .i64 0,.slice none 0 0,.int .i64 0,.slice none 0 0,.int .i64 0,.slice none 0 0,.int .i64 0,.slice none 0 0,.int .i64 0,.slice none 0 0,.int .i64 0,.slice none 0 0,.int .i64 0,.slice none 0 0,.int .i64 0,.slice none 0 0,.int .i64 0,.slice none 0 0,.int .i64 0,.slice none 0 0,.int .i64 0,.slice none 0 0,.int .i64 0,.slice none 0 0,.int .i64 0,.slice none 0 0],flat:=none }
abbrev ti248:TyI:={ size:=1,bytes:=8,agg:=false,kind:=.int .u64,zero:=some [.int .u64 0],flat:=some [.int .u64] }
abbrev ti269:TyI:={ size:=1,bytes:=24,agg:=false,kind:=.slice 5 1,zero:=some [.slice none 0 0],flat:=none }
abbrev ti276:TyI:={ size:=1,bytes:=24,agg:=false,kind:=.slice 9 1,zero:=some [.slice none 0 0],flat:=none }
abbrev ti279:TyI:={ size:=1,bytes:=8,agg:=false,kind:=.other,zero:=some [.pointer none],flat:=none }
abbrev ti281:TyI:={ size:=2,bytes:=32,agg:=true,kind:=.struct [(0,1,false),(1,1,false)],zero:=some [.pointer none,.slice none 0 0],flat:=none }
abbrev ti282:TyI:={ size:=1,bytes:=4,agg:=false,kind:=.int .u32,zero:=some [.int .u32 0],flat:=some [.int .u32] }
abbrev ti305:TyI:={ size:=1,bytes:=8,agg:=false,kind:=.other,zero:=some [.pointer none],flat:=none }
abbrev ti314:TyI:={ size:=32,bytes:=32,agg:=true,kind:=.array 32 5 1,zero:=some [.int .u8 0,.int .u8 0,.int .u8 0,.int .u8 0,.int .u8 0,.int .u8 0,.int .u8 0,.int .u8 0,.int .u8 0,.int .u8 0,.int .u8 0,.int .u8 0,.int .u8 0,.int .u8 0,.int .u8 0,.int .u8 0,.int .u8 0,.int .u8 0,.int .u8 0,.int .u8 0,.int .u8 0,.int .u8 0,.int .u8 0,.int .u8 0,.int .u8 0,.int .u8 0,.int .u8 0,.int .u8 0,.int .u8 0,.int .u8 0,.int .u8 0,.int .u8 0],flat:=some [.int .u8,.int .u8,.int .u8,.int .u8,.int .u8,.int .u8,.int .u8,.int .u8,.int .u8,.int .u8,.int .u8,.int .u8,.int .u8,.int .u8,.int .u8,.int .u8,.int .u8,.int .u8,.int .u8,.int .u8,.int .u8,.int .u8,.int .u8,.int .u8,.int .u8,.int .u8,.int .u8,.int .u8,.int .u8,.int .u8,.int .u8,.int .u8] }
theorem ty3:tyI Tryz.prog 3=some ti3:=by kernel_rfl
theorem ty4:tyI Tryz.prog 4=some ti4:=by kernel_rfl
theorem ty5:tyI Tryz.prog 5=some ti5:=by kernel_rfl
theorem ty9:tyI Tryz.prog 9=some ti9:=by kernel_rfl
theorem ty21:tyI Tryz.prog 21=some ti21:=by kernel_rfl
theorem ty24:tyI Tryz.prog 24=some ti24:=by kernel_rfl
theorem ty26:tyI Tryz.prog 26=some ti26:=by kernel_rfl
theorem ty37:tyI Tryz.prog 37=some ti37:=by kernel_rfl
theorem ty39:tyI Tryz.prog 39=some ti39:=by kernel_rfl
theorem ty40:tyI Tryz.prog 40=some ti40:=by kernel_rfl
theorem ty42:tyI Tryz.prog 42=some ti42:=by kernel_rfl
theorem ty80:tyI Tryz.prog 80=some ti80:=by kernel_rfl
theorem ty86:tyI Tryz.prog 86=some ti86:=by kernel_rfl
theorem ty93:tyI Tryz.prog 93=some ti93:=by kernel_rfl
theorem ty101:tyI Tryz.prog 101=some ti101:=by kernel_rfl
theorem ty102:tyI Tryz.prog 102=some ti102:=by kernel_rfl
theorem ty104:tyI Tryz.prog 104=some ti104:=by kernel_rfl
theorem ty125:tyI Tryz.prog 125=some ti125:=by kernel_rfl
theorem ty143:tyI Tryz.prog 143=some ti143:=by kernel_rfl
theorem ty145:tyI Tryz.prog 145=some ti145:=by kernel_rfl
theorem ty150:tyI Tryz.prog 150=some ti150:=by kernel_rfl
theorem ty152:tyI Tryz.prog 152=some ti152:=by kernel_rfl
theorem ty161:tyI Tryz.prog 161=some ti161:=by kernel_rfl
theorem ty172:tyI Tryz.prog 172=some ti172:=by kernel_rfl
theorem ty173:tyI Tryz.prog 173=some ti173:=by kernel_rfl
theorem ty175:tyI Tryz.prog 175=some ti175:=by kernel_rfl
theorem ty177:tyI Tryz.prog 177=some ti177:=by kernel_rfl
theorem ty183:tyI Tryz.prog 183=some ti183:=by kernel_rfl
theorem ty224:tyI Tryz.prog 224=some ti224:=by kernel_rfl
theorem ty230:tyI Tryz.prog 230=some ti230:=by kernel_rfl
theorem ty237:tyI Tryz.prog 237=some ti237:=by kernel_rfl
theorem ty242:tyI Tryz.prog 242=some ti242:=by kernel_rfl
theorem ty248:tyI Tryz.prog 248=some ti248:=by kernel_rfl
theorem ty269:tyI Tryz.prog 269=some ti269:=by kernel_rfl
theorem ty276:tyI Tryz.prog 276=some ti276:=by kernel_rfl
theorem ty279:tyI Tryz.prog 279=some ti279:=by kernel_rfl
theorem ty281:tyI Tryz.prog 281=some ti281:=by kernel_rfl
theorem ty282:tyI Tryz.prog 282=some ti282:=by kernel_rfl
theorem ty305:tyI Tryz.prog 305=some ti305:=by kernel_rfl
theorem ty314:tyI Tryz.prog 314=some ti314:=by kernel_rfl
def ttT:TyTree:=(.node (.node (.node (.node (.node (.node .nil 3 ti3 .nil) 4 ti4 .nil) 5 ti5 (.node (.node .nil 9 ti9 .nil) 21 ti21 .nil)) 24 ti24 (.node (.node (.node .nil 26 ti26 .nil) 37 ti37 .nil) 39 ti39 (.node .nil 40 ti40 .nil))) 42 ti42 (.node (.node (.node (.node .nil 80 ti80 .nil) 86 ti86 .nil) 93 ti93 (.node .nil 101 ti101 .nil)) 102 ti102 (.node (.node (.node .nil 104 ti104 .nil) 125 ti125 .nil) 143 ti143 (.node .nil 145 ti145 .nil)))) 150 ti150 (.node (.node (.node (.node (.node .nil 152 ti152 .nil) 161 ti161 .nil) 172 ti172 (.node .nil 173 ti173 .nil)) 175 ti175 (.node (.node (.node .nil 177 ti177 .nil) 183 ti183 .nil) 224 ti224 (.node .nil 230 ti230 .nil))) 237 ti237 (.node (.node (.node (.node .nil 242 ti242 .nil) 248 ti248 .nil) 269 ti269 (.node .nil 276 ti276 .nil)) 279 ti279 (.node (.node (.node .nil 281 ti281 .nil) 282 ti282 .nil) 305 ti305 (.node .nil 314 ti314 .nil)))))
def tt (T:TypeId):Option TyI:=ttT.find T
theorem tt_ok:TtOk Tryz.prog tt:=ttOk_of_tree (t:=ttT) ⟨⟨⟨⟨⟨⟨trivial,ty3,trivial⟩,ty4,trivial⟩,ty5,⟨⟨trivial,ty9,trivial⟩,ty21,trivial⟩⟩,ty24,⟨⟨⟨trivial,ty26,trivial⟩,ty37,trivial⟩,ty39,⟨trivial,ty40,trivial⟩⟩⟩,ty42,⟨⟨⟨⟨trivial,ty80,trivial⟩,ty86,trivial⟩,ty93,⟨trivial,ty101,trivial⟩⟩,ty102,⟨⟨⟨trivial,ty104,trivial⟩,ty125,trivial⟩,ty143,⟨trivial,ty145,trivial⟩⟩⟩⟩,ty150,⟨⟨⟨⟨⟨trivial,ty152,trivial⟩,ty161,trivial⟩,ty172,⟨trivial,ty173,trivial⟩⟩,ty175,⟨⟨⟨trivial,ty177,trivial⟩,ty183,trivial⟩,ty224,⟨trivial,ty230,trivial⟩⟩⟩,ty237,⟨⟨⟨⟨trivial,ty242,trivial⟩,ty248,trivial⟩,ty269,⟨trivial,ty276,trivial⟩⟩,ty279,⟨⟨⟨trivial,ty281,trivial⟩,ty282,trivial⟩,ty305,⟨trivial,ty314,trivial⟩⟩⟩⟩⟩
theorem tt_3:tt 3=some { size:=1,bytes:=8,agg:=false,kind:=.int .i64,zero:=some [.int .i64 0],flat:=some [.int .i64] }:=rfl
theorem tt_4:tt 4=some { size:=1,bytes:=1,agg:=false,kind:=.bool,zero:=some [.bool false],flat:=some [.bool] }:=rfl
theorem tt_5:tt 5=some { size:=1,bytes:=1,agg:=false,kind:=.int .u8,zero:=some [.int .u8 0],flat:=some [.int .u8] }:=rfl
theorem tt_9:tt 9=some { size:=1,bytes:=16,agg:=false,kind:=.string,zero:=some [.string ⟨#[]⟩],flat:=some [.string] }:=rfl
theorem tt_21:tt 21=some { size:=1,bytes:=4,agg:=false,kind:=.int .i32,zero:=some [.int .i32 0],flat:=some [.int .i32] }:=rfl
theorem tt_24:tt 24=some { size:=1,bytes:=8,agg:=false,kind:=.int .i64,zero:=some [.int .i64 0],flat:=some [.int .i64] }:=rfl
theorem tt_26:tt 26=some { size:=1,bytes:=16,agg:=false,kind:=.string,zero:=some [.string ⟨#[]⟩],flat:=some [.string] }:=rfl
theorem tt_37:tt 37=some { size:=3,bytes:=48,agg:=true,kind:=.array 3 26 1,zero:=some [.string ⟨#[]⟩,.string ⟨#[]⟩,.string ⟨#[]⟩],flat:=some [.string,.string,.string] }:=rfl
theorem tt_39:tt 39=some { size:=12,bytes:=192,agg:=true,kind:=.struct [(0,3,true),(3,3,true),(6,3,true),(9,3,true)],zero:=some [.string ⟨#[]⟩,.string ⟨#[]⟩,.string ⟨#[]⟩,.string ⟨#[]⟩,.string ⟨#[]⟩,.string ⟨#[]⟩,.string ⟨#[]⟩,.string ⟨#[]⟩,.string ⟨#[]⟩,.string ⟨#[]⟩,.string ⟨#[]⟩,.string ⟨#[]⟩],flat:=some [.string,.string,.string,.string,.string,.string,.string,.string,.string,.string,.string,.string] }:=rfl
theorem tt_40:tt 40=some { size:=3,bytes:=24,agg:=true,kind:=.array 3 3 1,zero:=some [.int .i64 0,.int .i64 0,.int .i64 0],flat:=some [.int .i64,.int .i64,.int .i64] }:=rfl
theorem tt_42:tt 42=some { size:=4,bytes:=40,agg:=true,kind:=.struct [(0,3,true),(3,1,false)],zero:=some [.int .i64 0,.int .i64 0,.int .i64 0,.string ⟨#[]⟩],flat:=some [.int .i64,.int .i64,.int .i64,.string] }:=rfl
theorem tt_80:tt 80=some { size:=4,bytes:=64,agg:=true,kind:=.array 4 26 1,zero:=some [.string ⟨#[]⟩,.string ⟨#[]⟩,.string ⟨#[]⟩,.string ⟨#[]⟩],flat:=some [.string,.string,.string,.string] }:=rfl
theorem tt_86:tt 86=some { size:=1,bytes:=24,agg:=false,kind:=.slice 26 1,zero:=some [.slice none 0 0],flat:=none }:=rfl
theorem tt_93:tt 93=some { size:=6,bytes:=96,agg:=true,kind:=.array 2 37 3,zero:=some [.string ⟨#[]⟩,.string ⟨#[]⟩,.string ⟨#[]⟩,.string ⟨#[]⟩,.string ⟨#[]⟩,.string ⟨#[]⟩],flat:=some [.string,.string,.string,.string,.string,.string] }:=rfl
theorem tt_101:tt 101=some { size:=9,bytes:=144,agg:=true,kind:=.array 3 37 3,zero:=some [.string ⟨#[]⟩,.string ⟨#[]⟩,.string ⟨#[]⟩,.string ⟨#[]⟩,.string ⟨#[]⟩,.string ⟨#[]⟩,.string ⟨#[]⟩,.string ⟨#[]⟩,.string ⟨#[]⟩],flat:=some [.string,.string,.string,.string,.string,.string,.string,.string,.string] }:=rfl
theorem tt_102:tt 102=some { size:=12,bytes:=120,agg:=true,kind:=.array 3 42 4,zero:=some [.int .i64 0,.int .i64 0,.int .i64 0,.string ⟨#[]⟩,.int .i64 0,.int .i64 0,.int .i64 0,.string ⟨#[]⟩,.int .i64 0,.int .i64 0,.int .i64 0,.string ⟨#[]⟩],flat:=some [.int .i64,.int .i64,.int .i64,.string,.int .i64,.int .i64,.int .i64,.string,.int .i64,.int .i64,.int .i64,.string] }:=rfl
theorem tt_104:tt 104=some { size:=21,bytes:=264,agg:=true,kind:=.struct [(0,9,true),(9,12,true)],zero:=some [.string ⟨#[]⟩,.string ⟨#[]⟩,.string ⟨#[]⟩,.string ⟨#[]⟩,.string ⟨#[]⟩,.string ⟨#[]⟩,.string ⟨#[]⟩,.string ⟨#[]⟩,.string ⟨#[]⟩,.int .i64 0,.int .i64 0,.int .i64 0,.string ⟨#[]⟩,.int .i64 0,.int .i64 0,.int .i64 0,.string ⟨#[]⟩,.int .i64 0,.int .i64 0,.int .i64 0,.string ⟨#[]⟩],flat:=some [.string,.string,.string,.string,.string,.string,.string,.string,.string,.int .i64,.int .i64,.int .i64,.string,.int .i64,.int .i64,.int .i64,.string,.int .i64,.int .i64,.int .i64,.string] }:=rfl
theorem tt_125:tt 125=some { size:=12,bytes:=192,agg:=true,kind:=.array 4 37 3,zero:=some [.string ⟨#[]⟩,.string ⟨#[]⟩,.string ⟨#[]⟩,.string ⟨#[]⟩,.string ⟨#[]⟩,.string ⟨#[]⟩,.string ⟨#[]⟩,.string ⟨#[]⟩,.string ⟨#[]⟩,.string ⟨#[]⟩,.string ⟨#[]⟩,.string ⟨#[]⟩],flat:=some [.string,.string,.string,.string,.string,.string,.string,.string,.string,.string,.string,.string] }:=rfl
theorem tt_143:tt 143=some { size:=1,bytes:=24,agg:=false,kind:=.slice 248 1,zero:=some [.slice none 0 0],flat:=none }:=rfl
theorem tt_145:tt 145=some { size:=2,bytes:=32,agg:=true,kind:=.struct [(0,1,false),(1,1,false)],zero:=some [.int .i64 0,.slice none 0 0],flat:=none }:=rfl
theorem tt_150:tt 150=some { size:=1,bytes:=24,agg:=false,kind:=.slice 3 1,zero:=some [.slice none 0 0],flat:=none }:=rfl
theorem tt_152:tt 152=some { size:=2,bytes:=32,agg:=true,kind:=.struct [(0,1,false),(1,1,false)],zero:=some [.bool false,.slice none 0 0],flat:=none }:=rfl
theorem tt_161:tt 161=some { size:=4,bytes:=64,agg:=true,kind:=.struct [(0,2,true),(2,2,true)],zero:=some [.int .i64 0,.slice none 0 0,.int .i64 0,.slice none 0 0],flat:=none }:=rfl
theorem tt_172:tt 172=some { size:=12,bytes:=192,agg:=true,kind:=.array 3 161 4,zero:=some [.int .i64 0,.slice none 0 0,.int .i64 0,.slice none 0 0,.int .i64 0,.slice none 0 0,.int .i64 0,.slice none 0 0,.int .i64 0,.slice none 0 0,.int .i64 0,.slice none 0 0],flat:=none }:=rfl
theorem tt_173:tt 173=some { size:=12,bytes:=192,agg:=true,kind:=.array 3 161 4,zero:=some [.int .i64 0,.slice none 0 0,.int .i64 0,.slice none 0 0,.int .i64 0,.slice none 0 0,.int .i64 0,.slice none 0 0,.int .i64 0,.slice none 0 0,.int .i64 0,.slice none 0 0],flat:=none }:=rfl
theorem tt_175:tt 175=some { size:=16,bytes:=256,agg:=true,kind:=.struct [(0,12,true),(12,4,true)],zero:=some [.int .i64 0,.slice none 0 0,.int .i64 0,.slice none 0 0,.int .i64 0,.slice none 0 0,.int .i64 0,.slice none 0 0,.int .i64 0,.slice none 0 0,.int .i64 0,.slice none 0 0,.int .i64 0,.slice none 0 0,.int .i64 0,.slice none 0 0],flat:=none }:=rfl
theorem tt_177:tt 177=some { size:=48,bytes:=768,agg:=true,kind:=.struct [(0,12,true),(12,12,true),(24,12,true),(36,12,true)],zero:=some [.int .i64 0,.slice none 0 0,.int .i64 0,.slice none 0 0,.int .i64 0,.slice none 0 0,.int .i64 0,.slice none 0 0,.int .i64 0,.slice none 0 0,.int .i64 0,.slice none 0 0,.int .i64 0,.slice none 0 0,.int .i64 0,.slice none 0 0,.int .i64 0,.slice none 0 0,.int .i64 0,.slice none 0 0,.int .i64 0,.slice none 0 0,.int .i64 0,.slice none 0 0,.int .i64 0,.slice none 0 0,.int .i64 0,.slice none 0 0,.int .i64 0,.slice none 0 0,.int .i64 0,.slice none 0 0,.int .i64 0,.slice none 0 0,.int .i64 0,.slice none 0 0,.int .i64 0,.slice none 0 0,.int .i64 0,.slice none 0 0,.int .i64 0,.slice none 0 0,.int .i64 0,.slice none 0 0,.int .i64 0,.slice none 0 0,.int .i64 0,.slice none 0 0],flat:=none }:=rfl
theorem tt_183:tt 183=some { size:=1,bytes:=24,agg:=false,kind:=.slice 37 3,zero:=some [.slice none 0 0],flat:=none }:=rfl
theorem tt_224:tt 224=some { size:=1,bytes:=16,agg:=false,kind:=.other,zero:=some [.nilIface],flat:=none }:=rfl
theorem tt_230:tt 230=some { size:=1,bytes:=8,agg:=false,kind:=.int .u64,zero:=some [.int .u64 0],flat:=some [.int .u64] }:=rfl
theorem tt_237:tt 237=some { size:=1,bytes:=24,agg:=false,kind:=.slice 24 1,zero:=some [.slice none 0 0],flat:=none }:=rfl
theorem tt_242:tt 242=some { size:=36,bytes:=576,agg:=true,kind:=.array 3 173 12,zero:=some [.int .i64 0,.slice none 0 0,.int .i64 0,.slice none 0 0,.int .i64 0,.slice none 0 0,.int .i64 0,.slice none 0 0,.int .i64 0,.slice none 0 0,.int .i64 0,.slice none 0 0,.int .i64 0,.slice none 0 0,.int .i64 0,.slice none 0 0,.int .i64 0,.slice none 0 0,.int .i64 0,.slice none 0 0,.int .i64 0,.slice none 0 0,.int .i64 0,.slice none 0 0,.int .i64 0,.slice none 0 0,.int .i64 0,.slice none 0 0,.int .i64 0,.slice none 0 0,.int .i64 0,.slice none 0 0,.int .i64 0,.slice none 0 0,.int .i64 0,.slice none 0 0],flat:=none }:=rfl
theorem tt_248:tt 248=some { size:=1,bytes:=8,agg:=false,kind:=.int .u64,zero:=some [.int .u64 0],flat:=some [.int .u64] }:=rfl
theorem tt_269:tt 269=some { size:=1,bytes:=24,agg:=false,kind:=.slice 5 1,zero:=some [.slice none 0 0],flat:=none }:=rfl
theorem tt_276:tt 276=some { size:=1,bytes:=24,agg:=false,kind:=.slice 9 1,zero:=some [.slice none 0 0],flat:=none }:=rfl
theorem tt_279:tt 279=some { size:=1,bytes:=8,agg:=false,kind:=.other,zero:=some [.pointer none],flat:=none }:=rfl
theorem tt_281:tt 281=some { size:=2,bytes:=32,agg:=true,kind:=.struct [(0,1,false),(1,1,false)],zero:=some [.pointer none,.slice none 0 0],flat:=none }:=rfl
theorem tt_282:tt 282=some { size:=1,bytes:=4,agg:=false,kind:=.int .u32,zero:=some [.int .u32 0],flat:=some [.int .u32] }:=rfl
theorem tt_305:tt 305=some { size:=1,bytes:=8,agg:=false,kind:=.other,zero:=some [.pointer none],flat:=none }:=rfl
theorem tt_314:tt 314=some { size:=32,bytes:=32,agg:=true,kind:=.array 32 5 1,zero:=some [.int .u8 0,.int .u8 0,.int .u8 0,.int .u8 0,.int .u8 0,.int .u8 0,.int .u8 0,.int .u8 0,.int .u8 0,.int .u8 0,.int .u8 0,.int .u8 0,.int .u8 0,.int .u8 0,.int .u8 0,.int .u8 0,.int .u8 0,.int .u8 0,.int .u8 0,.int .u8 0,.int .u8 0,.int .u8 0,.int .u8 0,.int .u8 0,.int .u8 0,.int .u8 0,.int .u8 0,.int .u8 0,.int .u8 0,.int .u8 0,.int .u8 0,.int .u8 0],flat:=some [.int .u8,.int .u8,.int .u8,.int .u8,.int .u8,.int .u8,.int .u8,.int .u8,.int .u8,.int .u8,.int .u8,.int .u8,.int .u8,.int .u8,.int .u8,.int .u8,.int .u8,.int .u8,.int .u8,.int .u8,.int .u8,.int .u8,.int .u8,.int .u8,.int .u8,.int .u8,.int .u8,.int .u8,.int .u8,.int .u8,.int .u8,.int .u8] }:=rfl
theorem mixed:Tryz.prog.follows .mixedOrders=true:=by kernel_rfl
def tab5 (w:World):Option (Array Value):=match (w.heap[5]?:Option Obj) with
  | some (.cells cs _ _)=>some cs
  | _=>none
def G (w:World):Prop:=tab5 w=some (Lib.pow10Tab.map fun z=>Value.int .u64 z).toArray
theorem G_below (w w':World) (h:RowKit.Below w.heap.size w w') (g:G w):G w':=by
  have h5:5 < w.heap.size:=by
    rcases Nat.lt_or_ge 5 w.heap.size with h|h
    · exact h
    · simp [G,tab5,Array.getElem?_eq_none h] at g
  rw [G,tab5,h.block 5 h5]
  exact g
abbrev I (z:Int):AV:=.agg [.int z]
abbrev F (q:Rat):AV:=.agg [.frac q]
abbrev B (b:Bool):AV:=.one (.v (.bool b))
abbrev N (n:Int):AV:=.one (.v (.int .i64 n))
abbrev U (n:Int):AV:=.one (.v (.int .u64 n))
abbrev S (s:ByteArray):AV:=.one (.v (.string s))
abbrev L (l:List Int):AV:=.one (.ints .u64 l)
end Go.Proofs
end
section
namespace Go.Proofs
open Go.Ax
def OutN (P:Program) (G:World→Prop) (nb0:Nat) (ops:Array Oper) (H:Oper→List Oper→St→List Sh→Prop) (out:Out) (K:St→List Sh→Prop):Prop:=OutK P G nb0 ops H out K
def CondN (x:AV) (T E:Prop):Prop:=CondK x T E
def EndN (out:Option (List Prop×AV)) (r:AV):Prop:=EndK out r
section
variable {P:Program} {G':World→Prop} {nb0:Nat} {ops:Array Oper} {H:Oper→List Oper→St→List Sh→Prop} {out out':Out} {K:St→List Sh→Prop} {x y:AV} {T E:Prop} {eo eo':Option (List Prop×AV)} {r:AV} {st:St}
theorem zoa0 (h:OutN P G' nb0 ops H out' K) (e:Is out out':=by first|(dsimp only [valsOf,ksOk,kOk,eqVs,eqV,partsL,absGo,absGg_none,absGg_some,absGn_some,absGd_b,absGd_u,absRes_val,absRes_ok,absRes_call,absRes_hand,absRes_bad,nthO,absOne,pickAV,sameK,absOp,absCall,onesOf,boxOf,List.all,evAt,AV.leaves,St.step,St.put,St.eff,stOf,slots,slotL,boxes,boxL,slotPairs,boxPairs,sizes,Leaf.size,upd,hupd,noBox,nthA,Eff.sh,constOk,subL,dropL,takeL,setL,mkAV,nilS,Box.put,Bool.not_true,Bool.not_false,Option.bind_some,Option.bind_none,Option.map_some,Option.map_none,List.getElem?_toArray,List.getElem?_cons_zero,List.getElem?_cons_succ,List.map,List.map_cons,List.map_nil,List.cons_append,List.nil_append,List.append_nil,List.all_cons,List.all_nil,List.length_cons,List.length_nil,List.flatMap_nil,resO,oneOr,Value.oneCell',lenA,idxA,binV,intBin,unV,convV,buildL,partOffs,partsOk,rowLeaves,optInt,Leaf.clB,Option.getD_some,Option.getD_none,Bool.and_true,Bool.true_and,Bool.and_self,and,Bool.not_true,Bool.not_false,Nat.reduceAdd,Nat.reduceSub,Nat.reduceMul,Nat.reduceBEq,Nat.reduceLT,reduceIte,Nat.zero_add,Nat.add_zero,Int.reduceToNat,Int.toNat_natCast,Nat.beq,Nat.ble,appOf,sliceOf,St.appG,St.app,St.appI,kill,killL,kills,killBox,frz,frzL,frzL.frzLs,frzs,frzBox,hfrz,tt_3,tt_4,tt_5,tt_9,tt_21,tt_24,tt_26,tt_37,tt_39,tt_40,tt_42,tt_80,tt_86,tt_93,tt_101,tt_102,tt_104,tt_125,tt_143,tt_145,tt_150,tt_152,tt_161,tt_172,tt_173,tt_175,tt_177,tt_183,tt_224,tt_230,tt_237,tt_242,tt_248,tt_269,tt_276,tt_279,tt_281,tt_282,tt_305,tt_314];with_reducible exact Is.refl _)|exact Is.refl _):OutK P G' nb0 ops H out K:=outK_is e h
theorem zca0 (h:CondN y T E) (e:Is x y:=by first|(dsimp only [valsOf,ksOk,kOk,eqVs,eqV,partsL,absGo,absGg_none,absGg_some,absGn_some,absGd_b,absGd_u,absRes_val,absRes_ok,absRes_call,absRes_hand,absRes_bad,nthO,absOne,pickAV,sameK,absOp,absCall,onesOf,boxOf,List.all,evAt,AV.leaves,St.step,St.put,St.eff,stOf,slots,slotL,boxes,boxL,slotPairs,boxPairs,sizes,Leaf.size,upd,hupd,noBox,nthA,Eff.sh,constOk,subL,dropL,takeL,setL,mkAV,nilS,Box.put,Bool.not_true,Bool.not_false,Option.bind_some,Option.bind_none,Option.map_some,Option.map_none,List.getElem?_toArray,List.getElem?_cons_zero,List.getElem?_cons_succ,List.map,List.map_cons,List.map_nil,List.cons_append,List.nil_append,List.append_nil,List.all_cons,List.all_nil,List.length_cons,List.length_nil,List.flatMap_nil,resO,oneOr,Value.oneCell',lenA,idxA,binV,intBin,unV,convV,buildL,partOffs,partsOk,rowLeaves,optInt,Leaf.clB,Option.getD_some,Option.getD_none,Bool.and_true,Bool.true_and,Bool.and_self,and,Bool.not_true,Bool.not_false,Nat.reduceAdd,Nat.reduceSub,Nat.reduceMul,Nat.reduceBEq,Nat.reduceLT,reduceIte,Nat.zero_add,Nat.add_zero,Int.reduceToNat,Int.toNat_natCast,Nat.beq,Nat.ble,appOf,sliceOf,St.appG,St.app,St.appI,kill,killL,kills,killBox,frz,frzL,frzL.frzLs,frzs,frzBox,hfrz,tt_3,tt_4,tt_5,tt_9,tt_21,tt_24,tt_26,tt_37,tt_39,tt_40,tt_42,tt_80,tt_86,tt_93,tt_101,tt_102,tt_104,tt_125,tt_143,tt_145,tt_150,tt_152,tt_161,tt_172,tt_173,tt_175,tt_177,tt_183,tt_224,tt_230,tt_237,tt_242,tt_248,tt_269,tt_276,tt_279,tt_281,tt_282,tt_305,tt_314];with_reducible exact Is.refl _)|exact Is.refl _):CondK x T E:=condK_is e h
theorem zea0 (h:EndN eo' r) (e:Is eo eo':=by first|(dsimp only [valsOf,ksOk,kOk,eqVs,eqV,partsL,absGo,absGg_none,absGg_some,absGn_some,absGd_b,absGd_u,absRes_val,absRes_ok,absRes_call,absRes_hand,absRes_bad,nthO,absOne,pickAV,sameK,absOp,absCall,onesOf,boxOf,List.all,evAt,AV.leaves,St.step,St.put,St.eff,stOf,slots,slotL,boxes,boxL,slotPairs,boxPairs,sizes,Leaf.size,upd,hupd,noBox,nthA,Eff.sh,constOk,subL,dropL,takeL,setL,mkAV,nilS,Box.put,Bool.not_true,Bool.not_false,Option.bind_some,Option.bind_none,Option.map_some,Option.map_none,List.getElem?_toArray,List.getElem?_cons_zero,List.getElem?_cons_succ,List.map,List.map_cons,List.map_nil,List.cons_append,List.nil_append,List.append_nil,List.all_cons,List.all_nil,List.length_cons,List.length_nil,List.flatMap_nil,resO,oneOr,Value.oneCell',lenA,idxA,binV,intBin,unV,convV,buildL,partOffs,partsOk,rowLeaves,optInt,Leaf.clB,Option.getD_some,Option.getD_none,Bool.and_true,Bool.true_and,Bool.and_self,and,Bool.not_true,Bool.not_false,Nat.reduceAdd,Nat.reduceSub,Nat.reduceMul,Nat.reduceBEq,Nat.reduceLT,reduceIte,Nat.zero_add,Nat.add_zero,Int.reduceToNat,Int.toNat_natCast,Nat.beq,Nat.ble,appOf,sliceOf,St.appG,St.app,St.appI,kill,killL,kills,killBox,frz,frzL,frzL.frzLs,frzs,frzBox,hfrz,tt_3,tt_4,tt_5,tt_9,tt_21,tt_24,tt_26,tt_37,tt_39,tt_40,tt_42,tt_80,tt_86,tt_93,tt_101,tt_102,tt_104,tt_125,tt_143,tt_145,tt_150,tt_152,tt_161,tt_172,tt_173,tt_175,tt_177,tt_183,tt_224,tt_230,tt_237,tt_242,tt_248,tt_269,tt_276,tt_279,tt_281,tt_282,tt_305,tt_314];with_reducible exact Is.refl _)|exact Is.refl _):EndK eo r:=endK_is e h
theorem zia0 {α:Type} {x y:α} (e:Is x y:=by first|(dsimp only [valsOf,ksOk,kOk,eqVs,eqV,partsL,absGo,absGg_none,absGg_some,absGn_some,absGd_b,absGd_u,absRes_val,absRes_ok,absRes_call,absRes_hand,absRes_bad,nthO,absOne,pickAV,sameK,absOp,absCall,onesOf,boxOf,List.all,evAt,AV.leaves,St.step,St.put,St.eff,stOf,slots,slotL,boxes,boxL,slotPairs,boxPairs,sizes,Leaf.size,upd,hupd,noBox,nthA,Eff.sh,constOk,subL,dropL,takeL,setL,mkAV,nilS,Box.put,Bool.not_true,Bool.not_false,Option.bind_some,Option.bind_none,Option.map_some,Option.map_none,List.getElem?_toArray,List.getElem?_cons_zero,List.getElem?_cons_succ,List.map,List.map_cons,List.map_nil,List.cons_append,List.nil_append,List.append_nil,List.all_cons,List.all_nil,List.length_cons,List.length_nil,List.flatMap_nil,resO,oneOr,Value.oneCell',lenA,idxA,binV,intBin,unV,convV,buildL,partOffs,partsOk,rowLeaves,optInt,Leaf.clB,Option.getD_some,Option.getD_none,Bool.and_true,Bool.true_and,Bool.and_self,and,Bool.not_true,Bool.not_false,Nat.reduceAdd,Nat.reduceSub,Nat.reduceMul,Nat.reduceBEq,Nat.reduceLT,reduceIte,Nat.zero_add,Nat.add_zero,Int.reduceToNat,Int.toNat_natCast,Nat.beq,Nat.ble,appOf,sliceOf,St.appG,St.app,St.appI,kill,killL,kills,killBox,frz,frzL,frzL.frzLs,frzs,frzBox,hfrz,tt_3,tt_4,tt_5,tt_9,tt_21,tt_24,tt_26,tt_37,tt_39,tt_40,tt_42,tt_80,tt_86,tt_93,tt_101,tt_102,tt_104,tt_125,tt_143,tt_145,tt_150,tt_152,tt_161,tt_172,tt_173,tt_175,tt_177,tt_183,tt_224,tt_230,tt_237,tt_242,tt_248,tt_269,tt_276,tt_279,tt_281,tt_282,tt_305,tt_314];with_reducible exact Is.refl _)|exact Is.refl _):Is x y:=e
theorem zoa1 (h:OutN P G' nb0 ops H out' K) (e:Is out out':=by first|(dsimp only [valsOf,ksOk,kOk,eqVs,eqV,partsL,absGo,absGg_none,absGg_some,absGn_some,absGd_b,absGd_u,absRes_val,absRes_ok,absRes_call,absRes_hand,absRes_bad,nthO,absOne,pickAV,sameK,absOp,absCall,onesOf,boxOf,List.all,evAt,AV.leaves,St.step,St.put,St.eff,stOf,slots,slotL,boxes,boxL,slotPairs,boxPairs,sizes,Leaf.size,upd,hupd,noBox,nthA,Eff.sh,constOk,subL,dropL,takeL,setL,mkAV,nilS,Box.put,Bool.not_true,Bool.not_false,Option.bind_some,Option.bind_none,Option.map_some,Option.map_none,List.getElem?_toArray,List.getElem?_cons_zero,List.getElem?_cons_succ,List.map,List.map_cons,List.map_nil,List.cons_append,List.nil_append,List.append_nil,List.all_cons,List.all_nil,List.length_cons,List.length_nil,List.flatMap_nil,resO,oneOr,Value.oneCell',lenA,idxA,binV,intBin,unV,convV,buildL,partOffs,partsOk,rowLeaves,optInt,Leaf.clB,Option.getD_some,Option.getD_none,Bool.and_true,Bool.true_and,Bool.and_self,and,Bool.not_true,Bool.not_false,Nat.reduceAdd,Nat.reduceSub,Nat.reduceMul,Nat.reduceBEq,Nat.reduceLT,reduceIte,Nat.zero_add,Nat.add_zero,Int.reduceToNat,Int.toNat_natCast,Nat.beq,Nat.ble,appOf,sliceOf,St.appG,St.app,St.appI,kill,killL,kills,killBox,frz,frzL,frzL.frzLs,frzs,frzBox,hfrz,ite00,tt_3,tt_4,tt_5,tt_9,tt_21,tt_24,tt_26,tt_37,tt_39,tt_40,tt_42,tt_80,tt_86,tt_93,tt_101,tt_102,tt_104,tt_125,tt_143,tt_145,tt_150,tt_152,tt_161,tt_172,tt_173,tt_175,tt_177,tt_183,tt_224,tt_230,tt_237,tt_242,tt_248,tt_269,tt_276,tt_279,tt_281,tt_282,tt_305,tt_314];with_reducible exact Is.refl _)|exact Is.refl _):OutK P G' nb0 ops H out K:=outK_is e h
theorem zca1 (h:CondN y T E) (e:Is x y:=by first|(dsimp only [valsOf,ksOk,kOk,eqVs,eqV,partsL,absGo,absGg_none,absGg_some,absGn_some,absGd_b,absGd_u,absRes_val,absRes_ok,absRes_call,absRes_hand,absRes_bad,nthO,absOne,pickAV,sameK,absOp,absCall,onesOf,boxOf,List.all,evAt,AV.leaves,St.step,St.put,St.eff,stOf,slots,slotL,boxes,boxL,slotPairs,boxPairs,sizes,Leaf.size,upd,hupd,noBox,nthA,Eff.sh,constOk,subL,dropL,takeL,setL,mkAV,nilS,Box.put,Bool.not_true,Bool.not_false,Option.bind_some,Option.bind_none,Option.map_some,Option.map_none,List.getElem?_toArray,List.getElem?_cons_zero,List.getElem?_cons_succ,List.map,List.map_cons,List.map_nil,List.cons_append,List.nil_append,List.append_nil,List.all_cons,List.all_nil,List.length_cons,List.length_nil,List.flatMap_nil,resO,oneOr,Value.oneCell',lenA,idxA,binV,intBin,unV,convV,buildL,partOffs,partsOk,rowLeaves,optInt,Leaf.clB,Option.getD_some,Option.getD_none,Bool.and_true,Bool.true_and,Bool.and_self,and,Bool.not_true,Bool.not_false,Nat.reduceAdd,Nat.reduceSub,Nat.reduceMul,Nat.reduceBEq,Nat.reduceLT,reduceIte,Nat.zero_add,Nat.add_zero,Int.reduceToNat,Int.toNat_natCast,Nat.beq,Nat.ble,appOf,sliceOf,St.appG,St.app,St.appI,kill,killL,kills,killBox,frz,frzL,frzL.frzLs,frzs,frzBox,hfrz,ite00,tt_3,tt_4,tt_5,tt_9,tt_21,tt_24,tt_26,tt_37,tt_39,tt_40,tt_42,tt_80,tt_86,tt_93,tt_101,tt_102,tt_104,tt_125,tt_143,tt_145,tt_150,tt_152,tt_161,tt_172,tt_173,tt_175,tt_177,tt_183,tt_224,tt_230,tt_237,tt_242,tt_248,tt_269,tt_276,tt_279,tt_281,tt_282,tt_305,tt_314];with_reducible exact Is.refl _)|exact Is.refl _):CondK x T E:=condK_is e h
theorem zea1 (h:EndN eo' r) (e:Is eo eo':=by first|(dsimp only [valsOf,ksOk,kOk,eqVs,eqV,partsL,absGo,absGg_none,absGg_some,absGn_some,absGd_b,absGd_u,absRes_val,absRes_ok,absRes_call,absRes_hand,absRes_bad,nthO,absOne,pickAV,sameK,absOp,absCall,onesOf,boxOf,List.all,evAt,AV.leaves,St.step,St.put,St.eff,stOf,slots,slotL,boxes,boxL,slotPairs,boxPairs,sizes,Leaf.size,upd,hupd,noBox,nthA,Eff.sh,constOk,subL,dropL,takeL,setL,mkAV,nilS,Box.put,Bool.not_true,Bool.not_false,Option.bind_some,Option.bind_none,Option.map_some,Option.map_none,List.getElem?_toArray,List.getElem?_cons_zero,List.getElem?_cons_succ,List.map,List.map_cons,List.map_nil,List.cons_append,List.nil_append,List.append_nil,List.all_cons,List.all_nil,List.length_cons,List.length_nil,List.flatMap_nil,resO,oneOr,Value.oneCell',lenA,idxA,binV,intBin,unV,convV,buildL,partOffs,partsOk,rowLeaves,optInt,Leaf.clB,Option.getD_some,Option.getD_none,Bool.and_true,Bool.true_and,Bool.and_self,and,Bool.not_true,Bool.not_false,Nat.reduceAdd,Nat.reduceSub,Nat.reduceMul,Nat.reduceBEq,Nat.reduceLT,reduceIte,Nat.zero_add,Nat.add_zero,Int.reduceToNat,Int.toNat_natCast,Nat.beq,Nat.ble,appOf,sliceOf,St.appG,St.app,St.appI,kill,killL,kills,killBox,frz,frzL,frzL.frzLs,frzs,frzBox,hfrz,ite00,tt_3,tt_4,tt_5,tt_9,tt_21,tt_24,tt_26,tt_37,tt_39,tt_40,tt_42,tt_80,tt_86,tt_93,tt_101,tt_102,tt_104,tt_125,tt_143,tt_145,tt_150,tt_152,tt_161,tt_172,tt_173,tt_175,tt_177,tt_183,tt_224,tt_230,tt_237,tt_242,tt_248,tt_269,tt_276,tt_279,tt_281,tt_282,tt_305,tt_314];with_reducible exact Is.refl _)|exact Is.refl _):EndK eo r:=endK_is e h
theorem zwa1 {l:List (Nat×AV)} {hs:List (Nat×Box)} {nb nb0:Nat} {l1:List (AV×AV)} {h1:List (Nat×Option Box×Box)} (a:SlotsOk nb l1) (b:BoxesOk nb h1) (e1:Is (slotPairs st.t l) l1:=by first|(dsimp only [valsOf,ksOk,kOk,eqVs,eqV,partsL,absGo,absGg_none,absGg_some,absGn_some,absGd_b,absGd_u,absRes_val,absRes_ok,absRes_call,absRes_hand,absRes_bad,nthO,absOne,pickAV,sameK,absOp,absCall,onesOf,boxOf,List.all,evAt,AV.leaves,St.step,St.put,St.eff,stOf,slots,slotL,boxes,boxL,slotPairs,boxPairs,sizes,Leaf.size,upd,hupd,noBox,nthA,Eff.sh,constOk,subL,dropL,takeL,setL,mkAV,nilS,Box.put,Bool.not_true,Bool.not_false,Option.bind_some,Option.bind_none,Option.map_some,Option.map_none,List.getElem?_toArray,List.getElem?_cons_zero,List.getElem?_cons_succ,List.map,List.map_cons,List.map_nil,List.cons_append,List.nil_append,List.append_nil,List.all_cons,List.all_nil,List.length_cons,List.length_nil,List.flatMap_nil,resO,oneOr,Value.oneCell',lenA,idxA,binV,intBin,unV,convV,buildL,partOffs,partsOk,rowLeaves,optInt,Leaf.clB,Option.getD_some,Option.getD_none,Bool.and_true,Bool.true_and,Bool.and_self,and,Bool.not_true,Bool.not_false,Nat.reduceAdd,Nat.reduceSub,Nat.reduceMul,Nat.reduceBEq,Nat.reduceLT,reduceIte,Nat.zero_add,Nat.add_zero,Int.reduceToNat,Int.toNat_natCast,Nat.beq,Nat.ble,appOf,sliceOf,St.appG,St.app,St.appI,kill,killL,kills,killBox,frz,frzL,frzL.frzLs,frzs,frzBox,hfrz,ite00,tt_3,tt_4,tt_5,tt_9,tt_21,tt_24,tt_26,tt_37,tt_39,tt_40,tt_42,tt_80,tt_86,tt_93,tt_101,tt_102,tt_104,tt_125,tt_143,tt_145,tt_150,tt_152,tt_161,tt_172,tt_173,tt_175,tt_177,tt_183,tt_224,tt_230,tt_237,tt_242,tt_248,tt_269,tt_276,tt_279,tt_281,tt_282,tt_305,tt_314];with_reducible exact Is.refl _)|exact Is.refl _) (e2:Is (boxPairs st.h hs) h1:=by first|(dsimp only [valsOf,ksOk,kOk,eqVs,eqV,partsL,absGo,absGg_none,absGg_some,absGn_some,absGd_b,absGd_u,absRes_val,absRes_ok,absRes_call,absRes_hand,absRes_bad,nthO,absOne,pickAV,sameK,absOp,absCall,onesOf,boxOf,List.all,evAt,AV.leaves,St.step,St.put,St.eff,stOf,slots,slotL,boxes,boxL,slotPairs,boxPairs,sizes,Leaf.size,upd,hupd,noBox,nthA,Eff.sh,constOk,subL,dropL,takeL,setL,mkAV,nilS,Box.put,Bool.not_true,Bool.not_false,Option.bind_some,Option.bind_none,Option.map_some,Option.map_none,List.getElem?_toArray,List.getElem?_cons_zero,List.getElem?_cons_succ,List.map,List.map_cons,List.map_nil,List.cons_append,List.nil_append,List.append_nil,List.all_cons,List.all_nil,List.length_cons,List.length_nil,List.flatMap_nil,resO,oneOr,Value.oneCell',lenA,idxA,binV,intBin,unV,convV,buildL,partOffs,partsOk,rowLeaves,optInt,Leaf.clB,Option.getD_some,Option.getD_none,Bool.and_true,Bool.true_and,Bool.and_self,and,Bool.not_true,Bool.not_false,Nat.reduceAdd,Nat.reduceSub,Nat.reduceMul,Nat.reduceBEq,Nat.reduceLT,reduceIte,Nat.zero_add,Nat.add_zero,Int.reduceToNat,Int.toNat_natCast,Nat.beq,Nat.ble,appOf,sliceOf,St.appG,St.app,St.appI,kill,killL,kills,killBox,frz,frzL,frzL.frzLs,frzs,frzBox,hfrz,ite00,tt_3,tt_4,tt_5,tt_9,tt_21,tt_24,tt_26,tt_37,tt_39,tt_40,tt_42,tt_80,tt_86,tt_93,tt_101,tt_102,tt_104,tt_125,tt_143,tt_145,tt_150,tt_152,tt_161,tt_172,tt_173,tt_175,tt_177,tt_183,tt_224,tt_230,tt_237,tt_242,tt_248,tt_269,tt_276,tt_279,tt_281,tt_282,tt_305,tt_314];with_reducible exact Is.refl _)|exact Is.refl _) (e3:Nat.ble nb0 nb=true:=by rfl):Weaker nb0 st (stOf l hs nb):=
  weaker_of (by have e1:_=_:=e1;rw [e1];exact a) (by have e2:_=_:=e2;rw [e2];exact b) e3
theorem zia1 {α:Type} {x y:α} (e:Is x y:=by first|(dsimp only [valsOf,ksOk,kOk,eqVs,eqV,partsL,absGo,absGg_none,absGg_some,absGn_some,absGd_b,absGd_u,absRes_val,absRes_ok,absRes_call,absRes_hand,absRes_bad,nthO,absOne,pickAV,sameK,absOp,absCall,onesOf,boxOf,List.all,evAt,AV.leaves,St.step,St.put,St.eff,stOf,slots,slotL,boxes,boxL,slotPairs,boxPairs,sizes,Leaf.size,upd,hupd,noBox,nthA,Eff.sh,constOk,subL,dropL,takeL,setL,mkAV,nilS,Box.put,Bool.not_true,Bool.not_false,Option.bind_some,Option.bind_none,Option.map_some,Option.map_none,List.getElem?_toArray,List.getElem?_cons_zero,List.getElem?_cons_succ,List.map,List.map_cons,List.map_nil,List.cons_append,List.nil_append,List.append_nil,List.all_cons,List.all_nil,List.length_cons,List.length_nil,List.flatMap_nil,resO,oneOr,Value.oneCell',lenA,idxA,binV,intBin,unV,convV,buildL,partOffs,partsOk,rowLeaves,optInt,Leaf.clB,Option.getD_some,Option.getD_none,Bool.and_true,Bool.true_and,Bool.and_self,and,Bool.not_true,Bool.not_false,Nat.reduceAdd,Nat.reduceSub,Nat.reduceMul,Nat.reduceBEq,Nat.reduceLT,reduceIte,Nat.zero_add,Nat.add_zero,Int.reduceToNat,Int.toNat_natCast,Nat.beq,Nat.ble,appOf,sliceOf,St.appG,St.app,St.appI,kill,killL,kills,killBox,frz,frzL,frzL.frzLs,frzs,frzBox,hfrz,ite00,tt_3,tt_4,tt_5,tt_9,tt_21,tt_24,tt_26,tt_37,tt_39,tt_40,tt_42,tt_80,tt_86,tt_93,tt_101,tt_102,tt_104,tt_125,tt_143,tt_145,tt_150,tt_152,tt_161,tt_172,tt_173,tt_175,tt_177,tt_183,tt_224,tt_230,tt_237,tt_242,tt_248,tt_269,tt_276,tt_279,tt_281,tt_282,tt_305,tt_314];with_reducible exact Is.refl _)|exact Is.refl _):Is x y:=e
end
section
variable {c:Ctx} {Q:Exit→St→Prop} {st:St}
theorem zrs {id:Nat} {ops:Array Oper} (S:List Nat) (hc:CtxOk c) (hS:(S.all fun i=>!Nat.beq i id)=true) (h:OutK c.P c.G c.ns ops (HandS c ops fun st'=>Q .normal st') (absGo c.tt c.ns ops ops.toList st [] []) fun st' _=>Q .normal st')
    (hnb:Nat.ble c.nb0 st.nb=true:=by kernel_rfl) (hd:seqOk c.N ops=true:=by kernel_rfl):Wp c (.region id ops false) Q st:=Wp_region_seq hc (Nat.le_of_ble_eq_true hnb) hd h
theorem zrm {id:Nat} {ops:Array Oper} (S:List Nat) (hc:CtxOk c) (hm:c.P.follows .mixedOrders=true) (hS:(S.all fun i=>!Nat.beq i id)=true) (h:OutK c.P c.G c.ns ops (fun _ _ _ _=>False) (absGo c.tt c.ns ops ops.toList st [] []) fun st' sh=>boxOk ops st.nb sh=true∧Q .normal st')
    (hnb:Nat.ble c.nb0 st.nb=true:=by kernel_rfl) (hd:drawOk c.N ops=true:=by kernel_rfl):Wp c (.region id ops true) Q st:=Wp_region hc hm (Nat.le_of_ble_eq_true hnb) hd h
theorem zwk {x:Operand} {t e:Code} (h:CondK (evAt st.t x) (Wp c t Q st) (Wp c e Q st)) (hk:constOk x=true:=by kernel_rfl):Wp c (.cond x t e) Q st:=Wp_condK hk h
theorem zbn {id id':Nat} (h:Q (.exit id') st) (hn:Nat.beq id' id=false:=by decide):Blk id Q (.exit id') st:=blk_ne hn h
end
theorem zbo {ops:Array Oper} {nb:Nat} {sh:List Sh} {q:Prop} (h:q) (hb:boxOk ops nb sh=true:=by kernel_rfl):boxOk ops nb sh=true∧q:=⟨hb,h⟩
section
variable {G':World→Prop} {nb0:Nat} {ops:Array Oper} {H:Oper→List Oper→St→List Sh→Prop} {K:St→List Sh→Prop} {ps:List Prop} {rest:List Oper} {st:St} {sh:List Sh}
theorem zoc {f:FuncId} {xs:List AV} {r:AV} {dst:Option Tmp} (hc:Pure Tryz.prog G' f xs r) (hp:AllP ps) (h:OutK Tryz.prog G' nb0 ops H (absGo tt nb0 ops rest (st.step dst { val:=r }) (sh++ [⟨[],none⟩]) []) K):OutN Tryz.prog G' nb0 ops H (.call ps f xs dst rest st sh) K:=outK_call tt_ok hc (SubL.refl _) hp h
theorem zocx {f:FuncId} {xs:List AV} {r:AV} {dst:Option Tmp} (hc:PureX Tryz.prog f xs r) (hp:AllP ps) (h:OutK Tryz.prog G' nb0 ops H (absGo tt nb0 ops rest (st.step dst { val:=r }) (sh++ [⟨[],none⟩]) []) K):OutN Tryz.prog G' nb0 ops H (.call ps f xs dst rest st sh) K:=outK_callx tt_ok hc (SubL.refl _) hp h
theorem zocn {f:FuncId} {xs:List AV} {sz m n c':Nat} {g:Nat→List Leaf} {dst:Option Tmp} (hc:FreshC Tryz.prog G' f xs sz m n c' g) (hp:AllP ps)
    (h:OutK Tryz.prog G' nb0 ops H (absGo tt nb0 ops rest (st.step dst { val:=.one (.own st.nb sz 0 n c'),eff:=.new st.nb ⟨sz,m,g,false⟩}) (sh++ [⟨[],(Eff.new st.nb ⟨sz,m,g,false⟩).sh⟩]) []) K):OutN Tryz.prog G' nb0 ops H (.call ps f xs dst rest st sh) K:=outK_calln tt_ok hc (SubL.refl _) hp h
end
section
variable {P:Program} {G':World→Prop} {nb0:Nat} {ops:Array Oper} {H:Oper→List Oper→St→List Sh→Prop} {K:St→List Sh→Prop} {ps:List Prop} {rest:List Oper} {st:St} {sh:List Sh} {tt:TypeId→Option TyI} {o:Oper} {d:Nat}
theorem zod (hp:AllP ps) (h:K st sh):OutN P G' nb0 ops H (.done ps st sh) K:=outK_done hp h
theorem zott (htt:TtOk P tt) (hp:AllP ps) (h:OutK P G' nb0 ops H (absOne tt nb0 o rest st sh [] (absGo tt nb0 ops rest)) K):OutN P G' nb0 ops H (.guard ps true true d o rest st sh) K:=outK_tt htt hp h
theorem zoff (htt:TtOk P tt) (hp:AllP ps) (h:OutK P G' nb0 ops H (absOne tt nb0 o rest st sh [] (absGo tt nb0 ops rest)) K):OutN P G' nb0 ops H (.guard ps false false d o rest st sh) K:=outK_ff htt hp h
theorem zotf (htt:TtOk P tt) (hp:AllP ps) (h:OutK P G' nb0 ops H (absGo tt nb0 ops rest (st.put o.dst (.tup [])) (sh++ [⟨[],none⟩]) []) K):OutN P G' nb0 ops H (.guard ps true false d o rest st sh) K:=outK_tf htt hp h
theorem zoft (htt:TtOk P tt) (hp:AllP ps) (h:OutK P G' nb0 ops H (absGo tt nb0 ops rest (st.put o.dst (.tup [])) (sh++ [⟨[],none⟩]) []) K):OutN P G' nb0 ops H (.guard ps false true d o rest st sh) K:=outK_ft htt hp h
theorem zoitd {p:Prop} [Decidable p] (htt:TtOk P tt) (hp:AllP ps) (hy:p→OutK P G' nb0 ops H (absOne tt nb0 o rest { st with t:=upd st.t d (.one (.v (.bool true))) } sh [] (absGo tt nb0 ops rest)) K) (hn:¬p→OutK P G' nb0 ops H (absGo tt nb0 ops rest (({ st with t:=upd st.t d (.one (.v (.bool false))) }:St).put o.dst (.tup [])) (sh++ [⟨[],none⟩]) []) K):OutN P G' nb0 ops H (.guard ps (decide p) true d o rest st sh) K:=outK_ift_dec htt hp hy hn
theorem zoite {x y:Int} (htt:TtOk P tt) (hp:AllP ps) (hy:x=y→OutK P G' nb0 ops H (absOne tt nb0 o rest { st with t:=upd st.t d (.one (.v (.bool true))) } sh [] (absGo tt nb0 ops rest)) K) (hn:¬x=y→OutK P G' nb0 ops H (absGo tt nb0 ops rest (({ st with t:=upd st.t d (.one (.v (.bool false))) }:St).put o.dst (.tup [])) (sh++ [⟨[],none⟩]) []) K):OutN P G' nb0 ops H (.guard ps (x == y) true d o rest st sh) K:=outK_ift_beq htt hp hy hn
theorem zoitn {x y:Int} (htt:TtOk P tt) (hp:AllP ps) (hy:¬x=y→OutK P G' nb0 ops H (absOne tt nb0 o rest { st with t:=upd st.t d (.one (.v (.bool true))) } sh [] (absGo tt nb0 ops rest)) K) (hn:x=y→OutK P G' nb0 ops H (absGo tt nb0 ops rest (({ st with t:=upd st.t d (.one (.v (.bool false))) }:St).put o.dst (.tup [])) (sh++ [⟨[],none⟩]) []) K):OutN P G' nb0 ops H (.guard ps (x != y) true d o rest st sh) K:=outK_ift_bne htt hp hy hn
theorem zoit {b:Bool} (htt:TtOk P tt) (hp:AllP ps) (hy:b=true→OutK P G' nb0 ops H (absOne tt nb0 o rest { st with t:=upd st.t d (.one (.v (.bool true))) } sh [] (absGo tt nb0 ops rest)) K) (hn:b=false→OutK P G' nb0 ops H (absGo tt nb0 ops rest (({ st with t:=upd st.t d (.one (.v (.bool false))) }:St).put o.dst (.tup [])) (sh++ [⟨[],none⟩]) []) K):OutN P G' nb0 ops H (.guard ps b true d o rest st sh) K:=outK_ift htt hp hy hn
theorem zoifd {p:Prop} [Decidable p] (htt:TtOk P tt) (hp:AllP ps) (hy:¬p→OutK P G' nb0 ops H (absOne tt nb0 o rest { st with t:=upd st.t d (.one (.v (.bool false))) } sh [] (absGo tt nb0 ops rest)) K) (hn:p→OutK P G' nb0 ops H (absGo tt nb0 ops rest (({ st with t:=upd st.t d (.one (.v (.bool true))) }:St).put o.dst (.tup [])) (sh++ [⟨[],none⟩]) []) K):OutN P G' nb0 ops H (.guard ps (decide p) false d o rest st sh) K:=outK_iff_dec htt hp hy hn
theorem zoife {x y:Int} (htt:TtOk P tt) (hp:AllP ps) (hy:¬x=y→OutK P G' nb0 ops H (absOne tt nb0 o rest { st with t:=upd st.t d (.one (.v (.bool false))) } sh [] (absGo tt nb0 ops rest)) K) (hn:x=y→OutK P G' nb0 ops H (absGo tt nb0 ops rest (({ st with t:=upd st.t d (.one (.v (.bool true))) }:St).put o.dst (.tup [])) (sh++ [⟨[],none⟩]) []) K):OutN P G' nb0 ops H (.guard ps (x == y) false d o rest st sh) K:=outK_iff_beq htt hp hy hn
theorem zoifn {x y:Int} (htt:TtOk P tt) (hp:AllP ps) (hy:x=y→OutK P G' nb0 ops H (absOne tt nb0 o rest { st with t:=upd st.t d (.one (.v (.bool false))) } sh [] (absGo tt nb0 ops rest)) K) (hn:¬x=y→OutK P G' nb0 ops H (absGo tt nb0 ops rest (({ st with t:=upd st.t d (.one (.v (.bool true))) }:St).put o.dst (.tup [])) (sh++ [⟨[],none⟩]) []) K):OutN P G' nb0 ops H (.guard ps (x != y) false d o rest st sh) K:=outK_iff_bne htt hp hy hn
theorem zoif {b:Bool} (htt:TtOk P tt) (hp:AllP ps) (hy:b=false→OutK P G' nb0 ops H (absOne tt nb0 o rest { st with t:=upd st.t d (.one (.v (.bool false))) } sh [] (absGo tt nb0 ops rest)) K) (hn:b=true→OutK P G' nb0 ops H (absGo tt nb0 ops rest (({ st with t:=upd st.t d (.one (.v (.bool true))) }:St).put o.dst (.tup [])) (sh++ [⟨[],none⟩]) []) K):OutN P G' nb0 ops H (.guard ps b false d o rest st sh) K:=outK_iff htt hp hy hn
end
section
variable {T E:Prop}
theorem zct (h:T):CondN (.one (.v (.bool true))) T E:=condK_t h
theorem zcf (h:E):CondN (.one (.v (.bool false))) T E:=condK_f h
theorem zcd {p:Prop} [Decidable p] (h1:p→T) (h2:¬p→E):CondN (.one (.v (.bool (decide p)))) T E:=condK_dec h1 h2
theorem zce {a b:Int} (h1:a=b→T) (h2:¬a=b→E):CondN (.one (.v (.bool (a == b)))) T E:=condK_beq h1 h2
theorem zcn {a b:Int} (h1:¬a=b→T) (h2:a=b→E):CondN (.one (.v (.bool (a != b)))) T E:=condK_bne h1 h2
theorem zci {b:Bool} (h1:b=true→T) (h2:b=false→E):CondN (.one (.v (.bool b))) T E:=condK_if h1 h2
theorem zes {ps:List Prop} {x r:AV} (hp:AllP ps) (h:Ax.Sub x r):EndN (some (ps,x)) r:=endK_some hp h
end
section
variable {c:Ctx} {st:St}
theorem zagr {ops:Array Oper} {K:St→Prop} {ps:List Prop} {o:Oper} {rest:List Oper} {sh:List Sh} (hc:CtxOk c) {b n cc:Nat} {k:IntKind} {ls:List Int} {d:Int} {x y:Operand} {T:TypeId} {bytes:Nat} {zs:List Value} {g':Nat→List Leaf} {ro:Bool}
    (ho:Is (appOf o) (some (x,y,T))) (ht:Is (sliceOf c.tt T) (some (1,bytes,zs))) (hx:Is (evAt st.t x) (.one (.gr b 1 n cc))) (hy:Is (evAt st.t y) (.one (.row 1 1 g'))) (hg:Is (g' 0) [.v (.int k d)])
    (hbox:Is (st.h b) (some ⟨1,cc,rowG k ls,ro⟩)) (hb:Is (Nat.ble c.nb0 b) true) (hp:AllP ps) (hs:AllP [ls.length=n,n≤cc,n≤1000000000000,bytes≤100])
    (h:AppK fun c'=>n+1≤c'→OutK c.P c.G c.ns ops (HandS c ops K) (absGo c.tt c.ns ops rest (st.appI o.dst b (n+1) c' k (ls++ [d])) [] []) fun st' _=>K st'):OutN c.P c.G c.ns ops (HandS c ops K) (.hand ps o rest st sh) fun st' _=>K st':=outK_app_gr hc ho ht hx hy hg hbox hb hp hs h
theorem zanil {ops:Array Oper} {K:St→Prop} {ps:List Prop} {o:Oper} {rest:List Oper} {sh:List Sh} (hc:CtxOk c) {k:IntKind} {d:Int} {x y:Operand} {T:TypeId} {bytes:Nat} {zs:List Value} {g':Nat→List Leaf}
    (ho:Is (appOf o) (some (x,y,T))) (ht:Is (sliceOf c.tt T) (some (1,bytes,zs))) (hx:Is (evAt st.t x) (.one (.v (.slice none 0 0)))) (hy:Is (evAt st.t y) (.one (.row 1 1 g'))) (hg:Is (g' 0) [.v (.int k d)])
    (hb:Is (Nat.ble c.nb0 st.nb) true) (hp:AllP ps) (hs:AllP [bytes≤100])
    (h:AppK fun c'=>1≤c'→OutK c.P c.G c.ns ops (HandS c ops K) (absGo c.tt c.ns ops rest (st.appI o.dst st.nb 1 c' k [d]) [] []) fun st' _=>K st'):OutN c.P c.G c.ns ops (HandS c ops K) (.hand ps o rest st sh) fun st' _=>K st':=outK_app_nil hc ho ht hx hy hg hb hp hs h
end
end Go.Proofs
end
section
namespace Go.Proofs
open Go.Ax
class Stp (g:Prop) (p:outParam Prop):Prop where h:p→g
theorem zgo {g p:Prop} [s:Stp g p] (h:p):g:=s.h h
class St2 (g:Prop) (p q:outParam Prop):Prop where h:p→q→g
theorem zg2 {g p q:Prop} [s:St2 g p q] (h:p) (k:q):g:=s.h h k
class St3 (g:Prop) (a p A q B:outParam Prop):Prop where h:a→(p→A)→(q→B)→g
theorem zg3 {g a p A q B:Prop} [s:St3 g a p A q B] (x:a) (h:p→A) (k:q→B):g:=s.h x h k
class St4 (g:Prop) (p A q B:outParam Prop):Prop where h:(p→A)→(q→B)→g
theorem zg4 {g p A q B:Prop} [s:St4 g p A q B] (h:p→A) (k:q→B):g:=s.h h k
section
variable {c:Ctx} {Q:Exit→St→Prop} {st:St}
instance:Stp (Wp c .skip Q st) (Q .normal st):=⟨Wp_skip⟩
instance:Stp (Wp c .ret Q st) (Q .ret st):=⟨Wp_ret⟩
instance {id:Nat}:Stp (Wp c (.exit id) Q st) (Q (.exit id) st):=⟨Wp_exit⟩
instance {K:St→Prop}:Stp (Nxt K Q .normal st) (K st):=⟨nxt_normal⟩
instance {K:St→Prop}:Stp (Nxt K Q .ret st) (Q .ret st):=⟨nxt_ret⟩
instance {K:St→Prop} {id:Nat}:Stp (Nxt K Q (.exit id) st) (Q (.exit id) st):=⟨nxt_exit⟩
instance {id:Nat}:Stp (Blk id Q .normal st) (Q .normal st):=⟨blk_normal⟩
instance {id:Nat}:Stp (Blk id Q .ret st) (Q .ret st):=⟨blk_ret⟩
instance {id:Nat}:Stp (Blk id Q (.exit id) st) (Q .normal st):=⟨blk_eq⟩
theorem zr0 {id:Nat} {ops:Array Oper} (hc:CtxOk c) (h:OutK c.P c.G c.ns ops (HandS c ops fun st'=>Q .normal st') (absGo c.tt c.ns ops ops.toList st [] []) fun st' _=>Q .normal st')
    (hnb:Nat.ble c.nb0 st.nb=true:=by kernel_rfl) (hd:seqOk c.N ops=true:=by kernel_rfl):Wp c (.region id ops false) Q st:=Wp_region_seq hc (Nat.le_of_ble_eq_true hnb) hd h
theorem zm0 {id:Nat} {ops:Array Oper} (hc:CtxOk c) (h:OutK c.P c.G c.ns ops (fun _ _ _ _=>False) (absGo c.tt c.ns ops ops.toList st [] []) fun st' sh=>boxOk ops st.nb sh=true∧Q .normal st')
    (hm:c.P.follows .mixedOrders=true:=by exact mixed) (hnb:Nat.ble c.nb0 st.nb=true:=by kernel_rfl) (hd:drawOk c.N ops=true:=by kernel_rfl):Wp c (.region id ops true) Q st:=Wp_region hc hm (Nat.le_of_ble_eq_true hnb) hd h
class NR (e:Exit):Prop where h:e= .normal∨e= .ret
instance:NR .normal:=⟨.inl rfl⟩
instance:NR .ret:=⟨.inr rfl⟩
theorem zge {fn:Func} {rs:Array ResultVar} {r:AV} {e:Exit} [s:NR e] (hr:fn.results=rs) (h:EndK (resO c.tt st rs.toList [] []) r):Ax.Ends c fn r e st:=by
  rcases s.h with rfl|rfl
  · exact ends_normal hr h
  · exact ends_ret hr h
end
section
variable {T E:Prop}
instance:Stp (CondN (.one (.v (.bool true))) T E) T:=⟨zct⟩
instance:Stp (CondN (.one (.v (.bool false))) T E) E:=⟨zcf⟩
instance {p:Prop} {_:Decidable p}:St4 (CondN (.one (.v (.bool (decide p)))) T E) p T (¬p) E:=⟨zcd⟩
instance {a b:Int}:St4 (CondN (.one (.v (.bool (a == b)))) T E) (a=b) T (¬a=b) E:=⟨zce⟩
instance {a b:Int}:St4 (CondN (.one (.v (.bool (a != b)))) T E) (¬a=b) T (a=b) E:=⟨zcn⟩
instance (priority:=low) {b:Bool}:St4 (CondN (.one (.v (.bool b))) T E) (b=true) T (b=false) E:=⟨zci⟩
instance {ps:List Prop} {x r:AV}:St2 (EndN (some (ps,x)) r) (AllP ps) (Ax.Sub x r):=⟨zes⟩
instance {p:Prop} {ps:List Prop}:St2 (AllP (p :: ps)) p (AllP ps):=⟨allP_cons⟩
end
section
variable {G':World→Prop} {nb0:Nat} {ops:Array Oper} {H:Oper→List Oper→St→List Sh→Prop} {K:St→List Sh→Prop} {ps:List Prop} {rest:List Oper} {st:St} {sh:List Sh} {o:Oper} {d:Nat}
instance {P:Program}:St2 (OutN P G' nb0 ops H (.done ps st sh) K) (AllP ps) (K st sh):=⟨zod⟩
instance:St2 (OutN Tryz.prog G' nb0 ops H (.guard ps true true d o rest st sh) K) (AllP ps) (OutK Tryz.prog G' nb0 ops H (absOne tt nb0 o rest st sh [] (absGo tt nb0 ops rest)) K):=⟨zott tt_ok⟩
instance:St2 (OutN Tryz.prog G' nb0 ops H (.guard ps false false d o rest st sh) K) (AllP ps) (OutK Tryz.prog G' nb0 ops H (absOne tt nb0 o rest st sh [] (absGo tt nb0 ops rest)) K):=⟨zoff tt_ok⟩
instance:St2 (OutN Tryz.prog G' nb0 ops H (.guard ps true false d o rest st sh) K) (AllP ps) (OutK Tryz.prog G' nb0 ops H (absGo tt nb0 ops rest (st.put o.dst (.tup [])) (sh++ [⟨[],none⟩]) []) K):=⟨zotf tt_ok⟩
instance:St2 (OutN Tryz.prog G' nb0 ops H (.guard ps false true d o rest st sh) K) (AllP ps) (OutK Tryz.prog G' nb0 ops H (absGo tt nb0 ops rest (st.put o.dst (.tup [])) (sh++ [⟨[],none⟩]) []) K):=⟨zoft tt_ok⟩
abbrev goT (G':World→Prop) (nb0:Nat) (ops:Array Oper) (H:Oper→List Oper→St→List Sh→Prop) (K:St→List Sh→Prop) (rest:List Oper) (st:St) (sh:List Sh) (o:Oper) (d:Nat) (b:Bool):Prop:=OutK Tryz.prog G' nb0 ops H (absOne tt nb0 o rest { st with t:=upd st.t d (.one (.v (.bool b))) } sh [] (absGo tt nb0 ops rest)) K
abbrev skT (G':World→Prop) (nb0:Nat) (ops:Array Oper) (H:Oper→List Oper→St→List Sh→Prop) (K:St→List Sh→Prop) (rest:List Oper) (st:St) (sh:List Sh) (o:Oper) (d:Nat) (b:Bool):Prop:=OutK Tryz.prog G' nb0 ops H (absGo tt nb0 ops rest (({ st with t:=upd st.t d (.one (.v (.bool b))) }:St).put o.dst (.tup [])) (sh++ [⟨[],none⟩]) []) K
instance {p:Prop} {_:Decidable p}:St3 (OutN Tryz.prog G' nb0 ops H (.guard ps (decide p) true d o rest st sh) K) (AllP ps) p (goT G' nb0 ops H K rest st sh o d true) (¬p) (skT G' nb0 ops H K rest st sh o d false):=⟨zoitd tt_ok⟩
instance {p:Prop} {_:Decidable p}:St3 (OutN Tryz.prog G' nb0 ops H (.guard ps (decide p) false d o rest st sh) K) (AllP ps) (¬p) (goT G' nb0 ops H K rest st sh o d false) p (skT G' nb0 ops H K rest st sh o d true):=⟨zoifd tt_ok⟩
instance {x y:Int}:St3 (OutN Tryz.prog G' nb0 ops H (.guard ps (x == y) true d o rest st sh) K) (AllP ps) (x=y) (goT G' nb0 ops H K rest st sh o d true) (¬x=y) (skT G' nb0 ops H K rest st sh o d false):=⟨zoite tt_ok⟩
instance {x y:Int}:St3 (OutN Tryz.prog G' nb0 ops H (.guard ps (x == y) false d o rest st sh) K) (AllP ps) (¬x=y) (goT G' nb0 ops H K rest st sh o d false) (x=y) (skT G' nb0 ops H K rest st sh o d true):=⟨zoife tt_ok⟩
instance {x y:Int}:St3 (OutN Tryz.prog G' nb0 ops H (.guard ps (x != y) true d o rest st sh) K) (AllP ps) (¬x=y) (goT G' nb0 ops H K rest st sh o d true) (x=y) (skT G' nb0 ops H K rest st sh o d false):=⟨zoitn tt_ok⟩
instance {x y:Int}:St3 (OutN Tryz.prog G' nb0 ops H (.guard ps (x != y) false d o rest st sh) K) (AllP ps) (x=y) (goT G' nb0 ops H K rest st sh o d false) (¬x=y) (skT G' nb0 ops H K rest st sh o d true):=⟨zoifn tt_ok⟩
instance (priority:=low) {b:Bool}:St3 (OutN Tryz.prog G' nb0 ops H (.guard ps b true d o rest st sh) K) (AllP ps) (b=true) (goT G' nb0 ops H K rest st sh o d true) (b=false) (skT G' nb0 ops H K rest st sh o d false):=⟨zoit tt_ok⟩
instance (priority:=low) {b:Bool}:St3 (OutN Tryz.prog G' nb0 ops H (.guard ps b false d o rest st sh) K) (AllP ps) (b=false) (goT G' nb0 ops H K rest st sh o d false) (b=true) (skT G' nb0 ops H K rest st sh o d true):=⟨zoif tt_ok⟩
end
theorem zen {G':World→Prop} {f:FuncId} {fn:Func} {code:Code} {k:Nat} {args:List AV} {r:AV} (hf:Tryz.prog.funcs[f]?=some fn) (hb:fn.body=some code) (hn:fn.ntmps=k)
    (h:∀w0 E0,CtxOk ⟨Tryz.prog,tt,G',fn.ntmps,w0,E0,0,fun _=>False,0,[]⟩→Wp ⟨Tryz.prog,tt,G',fn.ntmps,w0,E0,0,fun _=>False,0,[]⟩ code (Ax.Ends ⟨Tryz.prog,tt,G',fn.ntmps,w0,E0,0,fun _=>False,0,[]⟩ fn r) ⟨nthA args,noBox,0⟩)
    (hG:∀w w',Go.RowKit.Below w.heap.size w w'→G' w→G' w':=by first|exact G_below|exact fun _ _ _ _=>trivial)
    (ha:clV 0 args:=by simp [clV,AV.cl,clL,Leaf.cl]) (hr:r.cl 0:=by simp [AV.cl,clL,Leaf.cl,clV]) (hl:Nat.ble args.length k=true:=by exact rfl) (hname:(fn.name == "runtime.NumGoroutine")=false:=by kernel_rfl):Ax.Pure Tryz.prog G' f args r:=
  spec_of_wp tt_ok hf hb hname hG ⟨ha,hr⟩ (hn ▸ Nat.le_of_ble_eq_true hl) h
end Go.Proofs
end
