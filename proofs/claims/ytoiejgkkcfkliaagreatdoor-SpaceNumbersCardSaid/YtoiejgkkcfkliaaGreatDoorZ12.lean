/- Lemmas on the program and its library, part 13. -/
import Derived.Test.YtoiejgkkcfkliaaGreatDoorProg
import Derived.KernelRfl
import Derived.Lib.ItoaNum
import Derived.Test.YtoiejgkkcfkliaaGreatDoorZ11
set_option linter.unusedVariables false
set_option linter.unusedSimpArgs false
section
namespace Go.Ax
def frzL (b:Nat) (ls:List Leaf):Leaf→Leaf
  | .ptr b' sz i o => match Nat.beq b' b with
    | true => match Nat.beq i 0, dropL ls o with
      | true,some r=>.pp r
      | _,_=>.u
    | false=>.ptr b' sz i o
  | .own b' sz i m c => match Nat.beq b' b with
    | true=>.u
    | false=>.own b' sz i m c
  | .gr b' sz m c => match Nat.beq b' b with
    | true=>.u
    | false=>.gr b' sz m c
  | .fn f xs ys=>.fn f (frzLs b ls xs) (frzLs b ls ys)
  | l=>l
where frzLs (b:Nat) (ls:List Leaf):List Leaf→List Leaf
  | []=> []
  | l :: r=>frzL b ls l :: frzLs b ls r
mutual
def frz (b:Nat) (ls:List Leaf):AV→AV
  | .one l=>.one (frzL b ls l)
  | .agg xs=>.agg (frzL.frzLs b ls xs)
  | .tup xs=>.tup (frzs b ls xs)
  | .u=>.u
def frzs (b:Nat) (ls:List Leaf):List AV→List AV
  | []=> []
  | x :: xs=>frz b ls x :: frzs b ls xs
end
def frzBox (b:Nat) (ls:List Leaf) (bx:Box):Box:={ bx with g:=fun i=>frzL.frzLs b ls (bx.g i) }
def hfrz (h:Nat→Option Box) (b:Nat) (ls:List Leaf) (x:Nat):Option Box:=match Nat.beq x b with
  | true=>none
  | false=>(h x).map (frzBox b ls)
section
variable {E:Env} {w:World} {b kb:Nat} {ls:List Leaf} {es:List Value}
theorem into_drop:Into 0 E (E.drop b) w:=⟨fun _ _ h=>absurd h (Nat.not_lt_zero _),fun _ h=>drop_ok h⟩
mutual
theorem frzL_R (hb:E.ρ b=some kb) (hok:(E.drop b).ok w kb) (hls:LeavesR (E.drop b).shut w ls es) (hr:w.rangeAt kb 0 es):∀{l:Leaf} {cs:List Value},l.R E w cs→(frzL b ls l).R (E.drop b) w cs
  | .ptr b' sz i o, cs, h => by
    obtain ⟨j,h1,rfl⟩:=h
    simp only [frzL]
    split
    · rename_i e
      have e:=Nat.eq_of_beq_eq_true e
      subst e
      rw [hb] at h1;cases h1
      split
      · rename_i r hi hd
        have hi:=Nat.eq_of_beq_eq_true hi
        subst hi
        refine ⟨kb,o,es.drop o,by simp,hok,dropL_R hls hd,?_⟩
        intro d v hv
        rw [List.getElem?_drop] at hv
        have:=hr _ _ hv
        rwa [Nat.zero_add] at this
      · exact ⟨_,rfl,rfl⟩
    · rename_i e;exact ⟨j,by simp [Env.drop,beq_false e,h1],rfl⟩
  | .own b' sz i m c, cs, h => by
    obtain ⟨j,h1,rfl⟩:=h
    simp only [frzL]
    split
    · exact ⟨_,rfl,rfl⟩
    · rename_i e;exact ⟨j,by simp [Env.drop,beq_false e,h1],rfl⟩
  | .gr b' sz m c, cs, h => by
    simp only [frzL]
    split
    · rcases h with ⟨rfl,rfl,rfl⟩|⟨j,h1,rfl⟩<;> exact ⟨_,rfl,rfl⟩
    · rename_i e
      rcases h with h|⟨j,h1,rfl⟩
      · exact .inl h
      · exact .inr ⟨j,by simp [Env.drop,beq_false e,h1],rfl⟩
  | .fn f a c, cs, h => by
    obtain ⟨xs,ys,rfl,h1,h2⟩:=h
    exact ⟨xs,ys,rfl,frzLs_R hb hok hls hr h1,frzLs_R hb hok hls hr h2⟩
  | .v x,cs,h=>(into_drop (b:=b)).leaf (l:=.v x) trivial h
  | .u,cs,h=>(into_drop (b:=b)).leaf (l:=.u) trivial h
  | .pp x,cs,h=>(into_drop (b:=b)).leaf (l:=.pp x) trivial h
  | .int z,cs,h=>(into_drop (b:=b)).leaf (l:=.int z) trivial h
  | .frac q,cs,h=>(into_drop (b:=b)).leaf (l:=.frac q) trivial h
  | .rint z,cs,h=>(into_drop (b:=b)).leaf (l:=.rint z) trivial h
  | .ints k l,cs,h=>(into_drop (b:=b)).leaf (l:=.ints k l) trivial h
  | .nn k l,cs,h=>(into_drop (b:=b)).leaf (l:=.nn k l) trivial h
  | .row sz n g,cs,h=>(into_drop (b:=b)).leaf (l:=.row sz n g) trivial h
theorem frzLs_R (hb:E.ρ b=some kb) (hok:(E.drop b).ok w kb) (hls:LeavesR (E.drop b).shut w ls es) (hr:w.rangeAt kb 0 es):∀{xs:List Leaf} {cs:List Value},LeavesR E w xs cs→LeavesR (E.drop b) w (frzL.frzLs b ls xs) cs
  | [],_,h=>h
  | _ :: _,_,h=>by obtain ⟨xs,ys,a,c,d⟩:=h;exact ⟨xs,ys,a,frzL_R hb hok hls hr c,frzLs_R hb hok hls hr d⟩
end
theorem frzL_size (l:Leaf):(frzL b ls l).size=l.size:=by
  cases l <;> simp only [frzL] <;> (repeat' split) <;> rfl
theorem sizes_frz:∀(xs:List Leaf),sizes (frzL.frzLs b ls xs)=sizes xs
  | []=>rfl
  | l :: xs=>by simp only [frzL.frzLs,sizes,frzL_size,sizes_frz xs]
mutual
theorem frz_R (hb:E.ρ b=some kb) (hok:(E.drop b).ok w kb) (hls:LeavesR (E.drop b).shut w ls es) (hr:w.rangeAt kb 0 es):∀{x:AV} {v:Value},RV E w x v→RV (E.drop b) w (frz b ls x) v
  | .one _,_,h=>⟨by rw [frzL_size];exact h.1,frzL_R hb hok hls hr h.2⟩
  | .agg _,_,h=>by obtain ⟨cs,a,c⟩:=h;exact ⟨cs,a,frzLs_R hb hok hls hr c⟩
  | .tup _,_,h=>by obtain ⟨vs,a,c⟩:=h;exact ⟨vs,a,frzs_R hb hok hls hr c⟩
  | .u,_,_=>trivial
theorem frzs_R (hb:E.ρ b=some kb) (hok:(E.drop b).ok w kb) (hls:LeavesR (E.drop b).shut w ls es) (hr:w.rangeAt kb 0 es):∀{xs:List AV} {vs:List Value},RVs E w xs vs→RVs (E.drop b) w (frzs b ls xs) vs
  | [],_,h=>h
  | _ :: _,_,h=>by obtain ⟨v,r,a,c,d⟩:=h;exact ⟨v,r,a,frz_R hb hok hls hr c,frzs_R hb hok hls hr d⟩
end
end
variable {c:Ctx} {Q:Exit→St→Prop} {st:St}
theorem drop_own (hc:CtxOk c) {b kb:Nat} (hb0:c.nb0≤b) {E:Env} {a:Act} {w:World} (s:SR c st E a w) (h1:E.ρ b=some kb):(E.drop b).ok w kb:=by
  have hown:=s.own b kb (Nat.le_trans hc.ns hb0) h1
  refine ⟨s.env.r _ _ h1,fun hM=>?_,fun x hx=>?_⟩
  · have hM:E.M kb:=hM
    rw [s.m] at hM
    have:=hc.m kb hM
    rcases hown with hown|hown
    · omega
    · exact hown.2 hM
  · by_cases e:x=b
    · simp [Env.drop,e] at hx
    · simp [Env.drop,e] at hx;exact e (s.env.inj _ _ _ hx h1)
theorem drop_sr (_hc:CtxOk c) {b:Nat} (hb0:c.nb0≤b) {E:Env} {a:Act} {w:World} (s:SR c st E a w) {st':St} (ht:∀m,RV (E.drop b) w (st'.t m) (a.tmps.getD m undef)) (hh:∀x bx,st'.h x=some bx→BoxR (E.drop b) w x bx) (hn:st'.nb=st.nb):SR c st' (E.drop b) a w:=by
  refine ⟨s.size,s.defers,ht,hh,⟨s.env.m,fun x j hj=>?_,fun x y j hx hy=>?_⟩,s.below,fun x j hx0 hj=>?_,fun x hx=>?_,s.m,fun x hx=>?_⟩
  · by_cases e:x=b
    · simp [Env.drop,e] at hj
    · simp [Env.drop,e] at hj;exact s.env.r _ _ hj
  · by_cases e:x=b
    · simp [Env.drop,e] at hx
    · by_cases e':y=b
      · simp [Env.drop,e'] at hy
      · simp [Env.drop,e] at hx;simp [Env.drop,e'] at hy;exact s.env.inj _ _ _ hx hy
  · by_cases e:x=b
    · simp [Env.drop,e] at hj
    · simp [Env.drop,e] at hj;exact s.own x j hx0 hj
  · have:x≠b:=by omega
    simp [Env.drop,this,s.low x hx]
  · have hx:st'.nb≤x:=hx
    by_cases e:x=b
    · simp [Env.drop,e]
    · simp [Env.drop,e];exact s.free x (by show st.nb≤x;omega)
theorem Wp_frzP {code:Code} (hc:CtxOk c) (b:Nat) {sz:Nat} {g:Nat→List Leaf} {ro:Bool} (hbx:Is (st.h b) (some ⟨sz,1,g,ro⟩)) (hcl:clL 0 (g 0)) (hb:Nat.ble c.nb0 b=true)
    (h:Wp c code Q ⟨fun m=>frz b (g 0) (st.t m),hfrz st.h b (g 0),st.nb⟩):Wp c code Q st:=by
  intro E a w s
  have hb0:=Nat.le_of_ble_eq_true hb
  rcases s.boxes b _ hbx with ⟨_,q⟩|⟨kb,cs,T,h1,h2,h3,h4⟩
  · cases q
  obtain ⟨es,h5,h6,h7⟩:=h4 0 Nat.zero_lt_one
  have hok:=drop_own hc hb0 s h1
  have hls:LeavesR (E.drop b).shut w (g 0) es:=(into_shut (E.drop b) w).leaves hcl (into_drop.leaves hcl h6)
  have hr:w.rangeAt kb 0 es:=fun j v hv=>by
    rw [cell_of_row w kb _ cs T (0,0) h2]
    have:=h7 j v hv
    simpa using this
  refine h (E.drop b) a w (drop_sr hc hb0 s (fun m=>frz_R h1 hok hls hr (s.slots m)) (fun x bx' hx=>?_) rfl)
  have hx:hfrz st.h b (g 0) x=some bx':=hx
  unfold hfrz at hx
  split at hx
  · cases hx
  · rename_i e
    have e:=beq_false e
    simp only [Option.map_eq_some_iff] at hx
    obtain ⟨bx1,hx2,rfl⟩:=hx
    rcases s.boxes x bx1 hx2 with g0|⟨kx,cx,Tx,g1,g2,g3,g4⟩
    · exact .inl g0
    refine .inr ⟨kx,cx,Tx,by simp [Env.drop,e,g1],g2,g3,fun i hi=>?_⟩
    obtain ⟨es',g5,g6,g7⟩:=g4 i hi
    exact ⟨es',by simp only [frzBox,sizes_frz];exact g5,frzLs_R h1 hok hls hr g6,g7⟩
theorem frzR_sr (hc:CtxOk c) (b s n cc sz:Nat) (g:Nat→List Leaf) (l:List (Nat×AV)) (hs:List (Nat×Box)) (nb:Nat)
    (hb:Nat.ble c.nb0 b=true) (hcc:n≤cc) (hcl:∀i,i < n→clL 0 (g i)) (hl:∀p∈l,p.1≠s∧kill b p.2=p.2) (hh:∀p∈hs,p.1≠b∧killBox b p.2=p.2)
    {E:Env} {a:Act} {w:World} (sr:SR c (stOf ((s,.one (.gr b sz n cc)) :: l) ((b,⟨sz,cc,g,true⟩) :: hs) nb) E a w):SR c (stOf ((s,.one (.row sz n g)) :: l) hs nb) (E.drop b) a w:=by
  have hb0:=Nat.le_of_ble_eq_true hb
  have hkill:∀{x:AV} {v:Value},RV E w x v→RV (E.drop b) w (kill b x) v:=fun {x v} hx=>by
    have hk:Keeps (E.hide b) w (E.drop b) w:=⟨fun x k h=>h,fun k h=>drop_ok (hide_ok.1 h),fun _ _=>rfl⟩
    exact hk.rv (kill_R hx)
  have hkills:∀{xs:List Leaf} {cs:List Value},LeavesR E w xs cs→LeavesR (E.drop b) w (xs.map (killL b)) cs:=fun {xs cs} hx=>by
    have hk:Keeps (E.hide b) w (E.drop b) w:=⟨fun x k h=>h,fun k h=>drop_ok (hide_ok.1 h),fun _ _=>rfl⟩
    exact hk.leaves (killLs_R hx)
  have hslot:∀m,m≠s→∀v,RV E w (slots l m) v→RV (E.drop b) w (slots l m) v:=by
    intro m _ v hv
    have e:kill b (slots l m)=slots l m:=by
      clear hv sr
      induction l with
      | nil=>rfl
      | cons p l ih =>
        simp only [slots,slotL]
        split
        · exact (hl p (by simp)).2
        · exact ih fun q hq=>hl q (by simp [hq])
    rw [←e];exact hkill hv
  have hbox:∀x bx,boxes hs x=some bx→x≠b∧killBox b bx=bx:=by
    intro x bx hx
    clear sr
    induction hs with
    | nil=>cases hx
    | cons p r ih =>
      simp only [boxes,boxL] at hx
      split at hx
      · rename_i e
        cases hx
        rw [Nat.eq_of_beq_eq_true e]
        exact hh p (by simp)
      · exact ih (fun q hq=>hh q (by simp [hq])) hx
  refine drop_sr hc hb0 sr (fun m=>?_) (fun x bx hx=>?_) rfl
  · have hm:=sr.slots m
    simp only [stOf,slots,slotL] at hm ⊢
    cases e:Nat.beq m s with
    | true =>
      rw [e] at hm
      obtain ⟨_,hm⟩:=hm
      refine ⟨rfl,?_⟩
      rcases hm with ⟨rfl,rfl,hm⟩|⟨k,h1,hm⟩
      · exact .inl ⟨rfl,hm⟩
      · refine .inr ⟨k,0,cc,hm,drop_own hc hb0 sr h1,hcc,fun i hi=>?_⟩
        rcases sr.boxes b ⟨sz,cc,g,true⟩ (by simp [stOf,boxes,boxL]) with ⟨_,q⟩|⟨kb,cs,T,g1,g2,g3,g4⟩
        · have q:cc=0:=q
          omega
        rw [h1] at g1;cases g1
        obtain ⟨es,q1,q2,q3⟩:=g4 i (by show i < cc;omega)
        refine ⟨es,q1,(into_shut (E.drop b) w).leaves (hcl i hi) (into_drop.leaves (hcl i hi) q2),fun j v hv=>?_⟩
        rw [Nat.zero_add,cell_of_row w k _ cs T (0,0) g2]
        exact q3 j v hv
    | false =>
      rw [e] at hm
      exact hslot m (beq_false e) _ hm
  · have hx:boxes hs x=some bx:=hx
    obtain ⟨e,hkb⟩:=hbox x bx hx
    have hx':(stOf ((s,.one (.gr b sz n cc)) :: l) ((b,⟨sz,cc,g,true⟩) :: hs) nb).h x=some bx:=by
      simp only [stOf,boxes,boxL]
      cases e1:Nat.beq x b with
      | true=>exact absurd (Nat.eq_of_beq_eq_true e1) e
      | false=>exact hx
    rcases sr.boxes x bx hx' with g0|⟨kx,cx,Tx,g1,g2,g3,g4⟩
    · exact .inl g0
    refine .inr ⟨kx,cx,Tx,by simp [Env.drop,e,g1],g2,g3,fun i hi=>?_⟩
    obtain ⟨es,g5,g6,g7⟩:=g4 i hi
    refine ⟨es,g5,?_,g7⟩
    have:bx.g i=(bx.g i).map (killL b):=by
      have:=congrArg (fun b=>b.g i) hkb
      simpa [killBox] using this.symm
    rw [this];exact hkills g6
theorem Wp_frzR {code:Code} (hc:CtxOk c) (b s n cc sz:Nat) (g:Nat→List Leaf) (l:List (Nat×AV)) (hs:List (Nat×Box)) (nb:Nat)
    (hw:Weaker c.nb0 st (stOf ((s,.one (.gr b sz n cc)) :: l) ((b,⟨sz,cc,g,true⟩) :: hs) nb))
    (hb:Nat.ble c.nb0 b=true) (hcc:n≤cc) (hcl:∀i,i < n→clL 0 (g i)) (hl:∀p∈l,p.1≠s∧kill b p.2=p.2) (hh:∀p∈hs,p.1≠b∧killBox b p.2=p.2)
    (h:Wp c code Q (stOf ((s,.one (.row sz n g)) :: l) hs nb)):Wp c code Q st:=by
  refine Wp_weaker hw ?_
  exact fun E a w sr=>h _ a w (frzR_sr hc b s n cc sz g l hs nb hb hcc hcl hl hh sr)
theorem outK_re {ops:Array Oper} {K:St→Prop} {ps:List Prop} {f:FuncId} {xs:List AV} {dst:Option Tmp} {rest:List Oper} {st2:St} {sh:List Sh} (hc:CtxOk c) (o:Oper) (ho:ops.toList.drop (ops.size - 1 - rest.length)=o :: rest) (hp:AllP ps)
    (hnb:c.nb0≤st2.nb) (hsr:∀E a w,SR c st E a w→∃E',SR c st2 E' a w)
    (h:OutK c.P c.G c.ns ops (HandS c ops K) (absGo c.tt c.ns ops (o :: rest) st2 [] []) fun st' _=>K st'):OutK c.P c.G c.ns ops (HandS c ops K) (.call ps f xs dst rest st sh) fun st' _=>K st':=by
  refine outK_otherc hp fun o' _ _=>?_
  intro k _ hk hr hlen hok Q' hQ E a w s _
  have e:ops.size - 1 - rest.length=k:=by omega
  rw [e] at ho
  have ho2:ops[k]?=some o:=by
    have:=congrArg (fun l:List Oper=>l[0]?) ho
    simpa using this
  rw [hk] at ho2
  cases ho2
  obtain ⟨E',s'⟩:=hsr E a w s
  exact seq_runK hc (absGo_sound hc.tt _ _ _ _ h).2 (fun j=>by
    cases j with
    | zero=>exact hk.symm
    | succ j=>rw [List.getElem?_cons_succ,hr j];congr 1;omega) (by rw [List.length_cons];omega) hnb hok Q' hQ E' a w s'
theorem outK_frz {ops:Array Oper} {K:St→Prop} {ps:List Prop} {f:FuncId} {xs:List AV} {dst:Option Tmp} {rest:List Oper} {sh:List Sh} (hc:CtxOk c) (o:Oper) (b s n cc sz:Nat) (g:Nat→List Leaf) (l:List (Nat×AV)) (hs:List (Nat×Box)) (nb:Nat)
    (hw:Weaker c.nb0 st (stOf ((s,.one (.gr b sz n cc)) :: l) ((b,⟨sz,cc,g,true⟩) :: hs) nb))
    (ho:ops.toList.drop (ops.size - 1 - rest.length)=o :: rest) (hp:AllP ps)
    (hb:Nat.ble c.nb0 b=true) (hcc:n≤cc) (hcl:∀i,i < n→clL 0 (g i)) (hl:∀p∈l,p.1≠s∧kill b p.2=p.2) (hh:∀p∈hs,p.1≠b∧killBox b p.2=p.2) (hnb:Nat.ble c.nb0 nb=true)
    (h:OutK c.P c.G c.ns ops (HandS c ops K) (absGo c.tt c.ns ops (o :: rest) (stOf ((s,.one (.row sz n g)) :: l) hs nb) [] []) fun st' _=>K st'):OutK c.P c.G c.ns ops (HandS c ops K) (.call ps f xs dst rest st sh) fun st' _=>K st':=
  outK_re hc o ho hp (Nat.le_of_ble_eq_true hnb) (fun E a w sr=>⟨_,frzR_sr hc b s n cc sz g l hs nb hb hcc hcl hl hh (hw.sr sr)⟩) h
theorem Wp_frzC {code:Code} (hc:CtxOk c) (b s n cc:Nat) (hcc:n≤cc) (k:IntKind) (ls:List Int) (l:List (Nat×AV)) (hs:List (Nat×Box)) (nb:Nat) (l':List (Nat×AV)) (hs':List (Nat×Box))
    (hw:Weaker c.nb0 st (stOf ((s,.one (.own b 1 0 n cc)) :: l) ((b,⟨1,n,fun i=> [.v (.int k (ls.getD i 0))],false⟩) :: hs) nb))
    (hb:c.nb0≤b) (hn:ls.length=n)
    (hl:l.map (fun p=>(p.1,thaw b k n (fun i=>ls.getD i 0) p.2))=l') (hh:hs.map (fun p=>(p.1,thawBox b k n (fun i=>ls.getD i 0) p.2))=hs') (hnb:∀p∈hs,p.1≠b)
    (h:Wp c code Q (stOf ((s,.one (.ints k ls)) :: l') hs' nb)):Wp c code Q st:=by
  refine Wp_weaker hw ?_
  refine Wp_freeze hc b hb (bx:=⟨1,n,fun i=> [.v (.int k (ls.getD i 0))],false⟩) (by simp [stOf,boxes,boxL]) rfl k (fun i=>ls.getD i 0) (fun i _=>rfl) ?_
  have e:(List.range n).map (fun j=>ls.getD (0+j) 0)=ls:=by
    subst hn
    apply List.ext_getElem
    · simp
    · intro i h1 h2;simp [h2]
  have et:(⟨fun m=>thaw b k n (fun i=>ls.getD i 0) ((stOf ((s,.one (.own b 1 0 n cc)) :: l) ((b,⟨1,n,fun i=> [.v (.int k (ls.getD i 0))],false⟩) :: hs) nb).t m),fun x=>if x=b then none else ((stOf ((s,.one (.own b 1 0 n cc)) :: l) ((b,⟨1,n,fun i=> [.v (.int k (ls.getD i 0))],false⟩) :: hs) nb).h x).map (thawBox b k n (fun i=>ls.getD i 0)),nb⟩:St)=stOf ((s,.one (.ints k ls)) :: l') hs' nb:=by
    simp only [stOf,St.mk.injEq,and_true]
    refine ⟨?_,?_⟩
    · funext m
      rw [slots_thaw,List.map_cons,hl]
      simp only [thaw,thawL,if_true,Nat.zero_add,Nat.le_refl,and_self,hcc]
      have e':(List.range n).map (fun j=>ls.getD j 0)=ls:=by simpa using e
      rw [e']
    · funext x
      by_cases hx:x=b
      · subst hx
        rw [if_pos rfl]
        have:∀(q:List (Nat×Box)),(∀p∈q,p.1≠x)→boxes q x=none:=by
          intro q
          induction q with
          | nil=>intro _;rfl
          | cons p q ih =>
            intro hq
            have h1:=hq p (List.mem_cons_self ..)
            simp only [boxes,boxL]
            cases e1:Nat.beq x p.1 with
            | true=>exact absurd (Nat.eq_of_beq_eq_true e1).symm h1
            | false=>exact ih fun p hp=>hq p (List.mem_cons_of_mem _ hp)
        rw [this]
        intro p hp
        rw [←hh] at hp
        obtain ⟨q,hq,rfl⟩:=List.mem_map.1 hp
        exact hnb q hq
      · rw [if_neg hx]
        have:boxes ((b,⟨1,n,fun i=> [.v (.int k (ls.getD i 0))],false⟩) :: hs) x=boxes hs x:=by
          simp only [boxes,boxL]
          cases e1:Nat.beq x b with
          | true=>exact absurd (Nat.eq_of_beq_eq_true e1) hx
          | false=>rfl
        rw [this,boxes_thaw,hh]
  rw [←et] at h
  exact h
-- axioms of Wp_frzC
-- axioms of Wp_frzP
-- axioms of Wp_frzR
end Go.Ax
end
section
namespace Go.Proofs
open Go.Ax
abbrev ti3:TyI:={ size:=1,bytes:=8,agg:=false,kind:=.int .i64,zero:=some [.int .i64 0],flat:=some [.int .i64] }
abbrev ti4:TyI:={ size:=1,bytes:=1,agg:=false,kind:=.bool,zero:=some [.bool false],flat:=some [.bool] }
abbrev ti5:TyI:={ size:=1,bytes:=1,agg:=false,kind:=.int .u8,zero:=some [.int .u8 0],flat:=some [.int .u8] }
abbrev ti9:TyI:={ size:=1,bytes:=16,agg:=false,kind:=.string,zero:=some [.string ⟨#[]⟩],flat:=some [.string] }
abbrev ti21:TyI:={ size:=1,bytes:=4,agg:=false,kind:=.int .i32,zero:=some [.int .i32 0],flat:=some [.int .i32] }
abbrev ti24:TyI:={ size:=1,bytes:=8,agg:=false,kind:=.int .i64,zero:=some [.int .i64 0],flat:=some [.int .i64] }
abbrev ti26:TyI:={ size:=1,bytes:=16,agg:=false,kind:=.string,zero:=some [.string ⟨#[]⟩],flat:=some [.string] }
abbrev ti37:TyI:={ size:=3,bytes:=48,agg:=true,kind:=.array 3 26 1,zero:=some [.string ⟨#[]⟩,.string ⟨#[]⟩,.string ⟨#[]⟩],flat:=some [.string,.string,.string] }
abbrev ti39:TyI:={ size:=12,bytes:=192,agg:=true,kind:=.struct [(0,3,true),(3,3,true),(6,3,true),(9,3,true)],zero:=some [.string ⟨#[]⟩,.string ⟨#[]⟩,.string ⟨#[]⟩,.string ⟨#[]⟩,.string ⟨#[]⟩,.string ⟨#[]⟩,.string ⟨#[]⟩,.string ⟨#[]⟩,.string ⟨#[]⟩,.string ⟨#[]⟩,.string ⟨#[]⟩,.string ⟨#[]⟩],flat:=some [.string,.string,.string,.string,.string,.string,.string,.string,.string,.string,.string,.string] }
abbrev ti40:TyI:={ size:=3,bytes:=24,agg:=true,kind:=.array 3 3 1,zero:=some [.int .i64 0,.int .i64 0,.int .i64 0],flat:=some [.int .i64,.int .i64,.int .i64] }
abbrev ti42:TyI:={ size:=4,bytes:=40,agg:=true,kind:=.struct [(0,3,true),(3,1,false)],zero:=some [.int .i64 0,.int .i64 0,.int .i64 0,.string ⟨#[]⟩],flat:=some [.int .i64,.int .i64,.int .i64,.string] }
abbrev ti80:TyI:={ size:=4,bytes:=64,agg:=true,kind:=.array 4 26 1,zero:=some [.string ⟨#[]⟩,.string ⟨#[]⟩,.string ⟨#[]⟩,.string ⟨#[]⟩],flat:=some [.string,.string,.string,.string] }
abbrev ti86:TyI:={ size:=1,bytes:=24,agg:=false,kind:=.slice 26 1,zero:=some [.slice none 0 0],flat:=none }
abbrev ti93:TyI:={ size:=6,bytes:=96,agg:=true,kind:=.array 2 37 3,zero:=some [.string ⟨#[]⟩,.string ⟨#[]⟩,.string ⟨#[]⟩,.string ⟨#[]⟩,.string ⟨#[]⟩,.string ⟨#[]⟩],flat:=some [.string,.string,.string,.string,.string,.string] }
abbrev ti101:TyI:={ size:=9,bytes:=144,agg:=true,kind:=.array 3 37 3,zero:=some [.string ⟨#[]⟩,.string ⟨#[]⟩,.string ⟨#[]⟩,.string ⟨#[]⟩,.string ⟨#[]⟩,.string ⟨#[]⟩,.string ⟨#[]⟩,.string ⟨#[]⟩,.string ⟨#[]⟩],flat:=some [.string,.string,.string,.string,.string,.string,.string,.string,.string] }
abbrev ti102:TyI:={ size:=12,bytes:=120,agg:=true,kind:=.array 3 42 4,zero:=some [.int .i64 0,.int .i64 0,.int .i64 0,.string ⟨#[]⟩,.int .i64 0,.int .i64 0,.int .i64 0,.string ⟨#[]⟩,.int .i64 0,.int .i64 0,.int .i64 0,.string ⟨#[]⟩],flat:=some [.int .i64,.int .i64,.int .i64,.string,.int .i64,.int .i64,.int .i64,.string,.int .i64,.int .i64,.int .i64,.string] }
abbrev ti104:TyI:={ size:=21,bytes:=264,agg:=true,kind:=.struct [(0,9,true),(9,12,true)],zero:=some [.string ⟨#[]⟩,.string ⟨#[]⟩,.string ⟨#[]⟩,.string ⟨#[]⟩,.string ⟨#[]⟩,.string ⟨#[]⟩,.string ⟨#[]⟩,.string ⟨#[]⟩,.string ⟨#[]⟩,.int .i64 0,.int .i64 0,.int .i64 0,.string ⟨#[]⟩,.int .i64 0,.int .i64 0,.int .i64 0,.string ⟨#[]⟩,.int .i64 0,.int .i64 0,.int .i64 0,.string ⟨#[]⟩],flat:=some [.string,.string,.string,.string,.string,.string,.string,.string,.string,.int .i64,.int .i64,.int .i64,.string,.int .i64,.int .i64,.int .i64,.string,.int .i64,.int .i64,.int .i64,.string] }
abbrev ti125:TyI:={ size:=12,bytes:=192,agg:=true,kind:=.array 4 37 3,zero:=some [.string ⟨#[]⟩,.string ⟨#[]⟩,.string ⟨#[]⟩,.string ⟨#[]⟩,.string ⟨#[]⟩,.string ⟨#[]⟩,.string ⟨#[]⟩,.string ⟨#[]⟩,.string ⟨#[]⟩,.string ⟨#[]⟩,.string ⟨#[]⟩,.string ⟨#[]⟩],flat:=some [.string,.string,.string,.string,.string,.string,.string,.string,.string,.string,.string,.string] }
abbrev ti143:TyI:={ size:=1,bytes:=24,agg:=false,kind:=.slice 248 1,zero:=some [.slice none 0 0],flat:=none }
abbrev ti145:TyI:={ size:=2,bytes:=32,agg:=true,kind:=.struct [(0,1,false),(1,1,false)],zero:=some [.int .i64 0,.slice none 0 0],flat:=none }
abbrev ti150:TyI:={ size:=1,bytes:=24,agg:=false,kind:=.slice 3 1,zero:=some [.slice none 0 0],flat:=none }
abbrev ti152:TyI:={ size:=2,bytes:=32,agg:=true,kind:=.struct [(0,1,false),(1,1,false)],zero:=some [.bool false,.slice none 0 0],flat:=none }
abbrev ti161:TyI:={ size:=4,bytes:=64,agg:=true,kind:=.struct [(0,2,true),(2,2,true)],zero:=some [.int .i64 0,.slice none 0 0,.int .i64 0,.slice none 0 0],flat:=none }
abbrev ti172:TyI:={ size:=12,bytes:=192,agg:=true,kind:=.array 3 161 4,zero:=some [.int .i64 0,.slice none 0 0,.int .i64 0,.slice none 0 0,.int .i64 0,.slice none 0 0,.int .i64 0,.slice none 0 0,.int .i64 0,.slice none 0 0,.int .i64 0,.slice none 0 0],flat:=none }
abbrev ti173:TyI:={ size:=12,bytes:=192,agg:=true,kind:=.array 3 161 4,zero:=some [.int .i64 0,.slice none 0 0,.int .i64 0,.slice none 0 0,.int .i64 0,.slice none 0 0,.int .i64 0,.slice none 0 0,.int .i64 0,.slice none 0 0,.int .i64 0,.slice none 0 0],flat:=none }
abbrev ti175:TyI:={ size:=16,bytes:=256,agg:=true,kind:=.struct [(0,12,true),(12,4,true)],zero:=some [.int .i64 0,.slice none 0 0,.int .i64 0,.slice none 0 0,.int .i64 0,.slice none 0 0,.int .i64 0,.slice none 0 0,.int .i64 0,.slice none 0 0,.int .i64 0,.slice none 0 0,.int .i64 0,.slice none 0 0,.int .i64 0,.slice none 0 0],flat:=none }
abbrev ti177:TyI:={ size:=48,bytes:=768,agg:=true,kind:=.struct [(0,12,true),(12,12,true),(24,12,true),(36,12,true)],zero:=some [.int .i64 0,.slice none 0 0,.int .i64 0,.slice none 0 0,.int .i64 0,.slice none 0 0,.int .i64 0,.slice none 0 0,.int .i64 0,.slice none 0 0,.int .i64 0,.slice none 0 0,.int .i64 0,.slice none 0 0,.int .i64 0,.slice none 0 0,.int .i64 0,.slice none 0 0,.int .i64 0,.slice none 0 0,.int .i64 0,.slice none 0 0,.int .i64 0,.slice none 0 0,.int .i64 0,.slice none 0 0,.int .i64 0,.slice none 0 0,.int .i64 0,.slice none 0 0,.int .i64 0,.slice none 0 0,.int .i64 0,.slice none 0 0,.int .i64 0,.slice none 0 0,.int .i64 0,.slice none 0 0,.int .i64 0,.slice none 0 0,.int .i64 0,.slice none 0 0,.int .i64 0,.slice none 0 0,.int .i64 0,.slice none 0 0,.int .i64 0,.slice none 0 0],flat:=none }
abbrev ti183:TyI:={ size:=1,bytes:=24,agg:=false,kind:=.slice 37 3,zero:=some [.slice none 0 0],flat:=none }
abbrev ti224:TyI:={ size:=1,bytes:=16,agg:=false,kind:=.other,zero:=some [.nilIface],flat:=none }
abbrev ti230:TyI:={ size:=1,bytes:=8,agg:=false,kind:=.int .u64,zero:=some [.int .u64 0],flat:=some [.int .u64] }
abbrev ti237:TyI:={ size:=1,bytes:=24,agg:=false,kind:=.slice 24 1,zero:=some [.slice none 0 0],flat:=none }
abbrev ti242:TyI:={ size:=36,bytes:=576,agg:=true,kind:=.array 3 173 12,zero:=some [.int .i64 0,.slice none 0 0,.int .i64 0,.slice none 0 0,.int .i64 0,.slice none 0 0,.int .i64 0,.slice none 0 0,.int .i64 0,.slice none 0 0,.int .i64 0,.slice none 0 0,.int .i64 0,.slice none 0 0,.int .i64 0,.slice none 0 0,.int .i64 0,.slice none 0 0,.int .i64 0,.slice none 0 0,.int .i64 0,.slice none 0 0,.int .i64 0,.slice none 0 0,.int .i64 0,.slice none 0 0,.int .i64 0,.slice none 0 0,.int .i64 0,.slice none 0 0,.int .i64 0,.slice none 0 0,.int .i64 0,.slice none 0 0,.int .i64 0,.slice none 0 0],flat:=none }
abbrev ti248:TyI:={ size:=1,bytes:=8,agg:=false,kind:=.int .u64,zero:=some [.int .u64 0],flat:=some [.int .u64] }
abbrev ti269:TyI:={ size:=1,bytes:=24,agg:=false,kind:=.slice 5 1,zero:=some [.slice none 0 0],flat:=none }
abbrev ti276:TyI:={ size:=1,bytes:=24,agg:=false,kind:=.slice 9 1,zero:=some [.slice none 0 0],flat:=none }
abbrev ti279:TyI:={ size:=1,bytes:=8,agg:=false,kind:=.other,zero:=some [.pointer none],flat:=none }
abbrev ti281:TyI:={ size:=2,bytes:=32,agg:=true,kind:=.struct [(0,1,false),(1,1,false)],zero:=some [.pointer none,.slice none 0 0],flat:=none }
abbrev ti282:TyI:={ size:=1,bytes:=4,agg:=false,kind:=.int .u32,zero:=some [.int .u32 0],flat:=some [.int .u32] }
abbrev ti305:TyI:={ size:=1,bytes:=8,agg:=false,kind:=.other,zero:=some [.pointer none],flat:=none }
abbrev ti314:TyI:={ size:=32,bytes:=32,agg:=true,kind:=.array 32 5 1,zero:=some [.int .u8 0,.int .u8 0,.int .u8 0,.int .u8 0,.int .u8 0,.int .u8 0,.int .u8 0,.int .u8 0,.int .u8 0,.int .u8 0,.int .u8 0,.int .u8 0,.int .u8 0,.int .u8 0,.int .u8 0,.int .u8 0,.int .u8 0,.int .u8 0,.int .u8 0,.int .u8 0,.int .u8 0,.int .u8 0,.int .u8 0,.int .u8 0,.int .u8 0,.int .u8 0,.int .u8 0,.int .u8 0,.int .u8 0,.int .u8 0,.int .u8 0,.int .u8 0],flat:=some [.int .u8,.int .u8,.int .u8,.int .u8,.int .u8,.int .u8,.int .u8,.int .u8,.int .u8,.int .u8,.int .u8,.int .u8,.int .u8,.int .u8,.int .u8,.int .u8,.int .u8,.int .u8,.int .u8,.int .u8,.int .u8,.int .u8,.int .u8,.int .u8,.int .u8,.int .u8,.int .u8,.int .u8,.int .u8,.int .u8,.int .u8,.int .u8] }
theorem ty3:tyI Tryz.prog 3=some ti3:=by kernel_rfl
theorem ty4:tyI Tryz.prog 4=some ti4:=by kernel_rfl
theorem ty5:tyI Tryz.prog 5=some ti5:=by kernel_rfl
theorem ty9:tyI Tryz.prog 9=some ti9:=by kernel_rfl
theorem ty21:tyI Tryz.prog 21=some ti21:=by kernel_rfl
theorem ty24:tyI Tryz.prog 24=some ti24:=by kernel_rfl
theorem ty26:tyI Tryz.prog 26=some ti26:=by kernel_rfl
theorem ty37:tyI Tryz.prog 37=some ti37:=by kernel_rfl
theorem ty39:tyI Tryz.prog 39=some ti39:=by kernel_rfl
theorem ty40:tyI Tryz.prog 40=some ti40:=by kernel_rfl
theorem ty42:tyI Tryz.prog 42=some ti42:=by kernel_rfl
theorem ty80:tyI Tryz.prog 80=some ti80:=by kernel_rfl
theorem ty86:tyI Tryz.prog 86=some ti86:=by kernel_rfl
theorem ty93:tyI Tryz.prog 93=some ti93:=by kernel_rfl
theorem ty101:tyI Tryz.prog 101=some ti101:=by kernel_rfl
theorem ty102:tyI Tryz.prog 102=some ti102:=by kernel_rfl
theorem ty104:tyI Tryz.prog 104=some ti104:=by kernel_rfl
theorem ty125:tyI Tryz.prog 125=some ti125:=by kernel_rfl
theorem ty143:tyI Tryz.prog 143=some ti143:=by kernel_rfl
theorem ty145:tyI Tryz.prog 145=some ti145:=by kernel_rfl
theorem ty150:tyI Tryz.prog 150=some ti150:=by kernel_rfl
theorem ty152:tyI Tryz.prog 152=some ti152:=by kernel_rfl
theorem ty161:tyI Tryz.prog 161=some ti161:=by kernel_rfl
theorem ty172:tyI Tryz.prog 172=some ti172:=by kernel_rfl
theorem ty173:tyI Tryz.prog 173=some ti173:=by kernel_rfl
theorem ty175:tyI Tryz.prog 175=some ti175:=by kernel_rfl
theorem ty177:tyI Tryz.prog 177=some ti177:=by kernel_rfl
theorem ty183:tyI Tryz.prog 183=some ti183:=by kernel_rfl
theorem ty224:tyI Tryz.prog 224=some ti224:=by kernel_rfl
theorem ty230:tyI Tryz.prog 230=some ti230:=by kernel_rfl
theorem ty237:tyI Tryz.prog 237=some ti237:=by kernel_rfl
theorem ty242:tyI Tryz.prog 242=some ti242:=by kernel_rfl
theorem ty248:tyI Tryz.prog 248=some ti248:=by kernel_rfl
theorem ty269:tyI Tryz.prog 269=some ti269:=by kernel_rfl
theorem ty276:tyI Tryz.prog 276=some ti276:=by kernel_rfl
theorem ty279:tyI Tryz.prog 279=some ti279:=by kernel_rfl
theorem ty281:tyI Tryz.prog 281=some ti281:=by kernel_rfl
theorem ty282:tyI Tryz.prog 282=some ti282:=by kernel_rfl
theorem ty305:tyI Tryz.prog 305=some ti305:=by kernel_rfl
theorem ty314:tyI Tryz.prog 314=some ti314:=by kernel_rfl
def ttT:TyTree:=(.node (.node (.node (.node (.node (.node .nil 3 ti3 .nil) 4 ti4 .nil) 5 ti5 (.node (.node .nil 9 ti9 .nil) 21 ti21 .nil)) 24 ti24 (.node (.node (.node .nil 26 ti26 .nil) 37 ti37 .nil) 39 ti39 (.node .nil 40 ti40 .nil))) 42 ti42 (.node (.node (.node (.node .nil 80 ti80 .nil) 86 ti86 .nil) 93 ti93 (.node .nil 101 ti101 .nil)) 102 ti102 (.node (.node (.node .nil 104 ti104 .nil) 125 ti125 .nil) 143 ti143 (.node .nil 145 ti145 .nil)))) 150 ti150 (.node (.node (.node (.node (.node .nil 152 ti152 .nil) 161 ti161 .nil) 172 ti172 (.node .nil 173 ti173 .nil)) 175 ti175 (.node (.node (.node .nil 177 ti177 .nil) 183 ti183 .nil) 224 ti224 (.node .nil 230 ti230 .nil))) 237 ti237 (.node (.node (.node (.node .nil 242 ti242 .nil) 248 ti248 .nil) 269 ti269 (.node .nil 276 ti276 .nil)) 279 ti279 (.node (.node (.node .nil 281 ti281 .nil) 282 ti282 .nil) 305 ti305 (.node .nil 314 ti314 .nil)))))
def tt (T:TypeId):Option TyI:=ttT.find T
theorem tt_ok:TtOk Tryz.prog tt:=ttOk_of_tree (t:=ttT) ⟨⟨⟨⟨⟨⟨trivial,ty3,trivial⟩,ty4,trivial⟩,ty5,⟨⟨trivial,ty9,trivial⟩,ty21,trivial⟩⟩,ty24,⟨⟨⟨trivial,ty26,trivial⟩,ty37,trivial⟩,ty39,⟨trivial,ty40,trivial⟩⟩⟩,ty42,⟨⟨⟨⟨trivial,ty80,trivial⟩,ty86,trivial⟩,ty93,⟨trivial,ty101,trivial⟩⟩,ty102,⟨⟨⟨trivial,ty104,trivial⟩,ty125,trivial⟩,ty143,⟨trivial,ty145,trivial⟩⟩⟩⟩,ty150,⟨⟨⟨⟨⟨trivial,ty152,trivial⟩,ty161,trivial⟩,ty172,⟨trivial,ty173,trivial⟩⟩,ty175,⟨⟨⟨trivial,ty177,trivial⟩,ty183,trivial⟩,ty224,⟨trivial,ty230,trivial⟩⟩⟩,ty237,⟨⟨⟨⟨trivial,ty242,trivial⟩,ty248,trivial⟩,ty269,⟨trivial,ty276,trivial⟩⟩,ty279,⟨⟨⟨trivial,ty281,trivial⟩,ty282,trivial⟩,ty305,⟨trivial,ty314,trivial⟩⟩⟩⟩⟩
theorem tt_3:tt 3=some { size:=1,bytes:=8,agg:=false,kind:=.int .i64,zero:=some [.int .i64 0],flat:=some [.int .i64] }:=rfl
theorem tt_4:tt 4=some { size:=1,bytes:=1,agg:=false,kind:=.bool,zero:=some [.bool false],flat:=some [.bool] }:=rfl
theorem tt_5:tt 5=some { size:=1,bytes:=1,agg:=false,kind:=.int .u8,zero:=some [.int .u8 0],flat:=some [.int .u8] }:=rfl
theorem tt_9:tt 9=some { size:=1,bytes:=16,agg:=false,kind:=.string,zero:=some [.string ⟨#[]⟩],flat:=some [.string] }:=rfl
theorem tt_21:tt 21=some { size:=1,bytes:=4,agg:=false,kind:=.int .i32,zero:=some [.int .i32 0],flat:=some [.int .i32] }:=rfl
theorem tt_24:tt 24=some { size:=1,bytes:=8,agg:=false,kind:=.int .i64,zero:=some [.int .i64 0],flat:=some [.int .i64] }:=rfl
theorem tt_26:tt 26=some { size:=1,bytes:=16,agg:=false,kind:=.string,zero:=some [.string ⟨#[]⟩],flat:=some [.string] }:=rfl
theorem tt_37:tt 37=some { size:=3,bytes:=48,agg:=true,kind:=.array 3 26 1,zero:=some [.string ⟨#[]⟩,.string ⟨#[]⟩,.string ⟨#[]⟩],flat:=some [.string,.string,.string] }:=rfl
theorem tt_39:tt 39=some { size:=12,bytes:=192,agg:=true,kind:=.struct [(0,3,true),(3,3,true),(6,3,true),(9,3,true)],zero:=some [.string ⟨#[]⟩,.string ⟨#[]⟩,.string ⟨#[]⟩,.string ⟨#[]⟩,.string ⟨#[]⟩,.string ⟨#[]⟩,.string ⟨#[]⟩,.string ⟨#[]⟩,.string ⟨#[]⟩,.string ⟨#[]⟩,.string ⟨#[]⟩,.string ⟨#[]⟩],flat:=some [.string,.string,.string,.string,.string,.string,.string,.string,.string,.string,.string,.string] }:=rfl
theorem tt_40:tt 40=some { size:=3,bytes:=24,agg:=true,kind:=.array 3 3 1,zero:=some [.int .i64 0,.int .i64 0,.int .i64 0],flat:=some [.int .i64,.int .i64,.int .i64] }:=rfl
theorem tt_42:tt 42=some { size:=4,bytes:=40,agg:=true,kind:=.struct [(0,3,true),(3,1,false)],zero:=some [.int .i64 0,.int .i64 0,.int .i64 0,.string ⟨#[]⟩],flat:=some [.int .i64,.int .i64,.int .i64,.string] }:=rfl
theorem tt_80:tt 80=some { size:=4,bytes:=64,agg:=true,kind:=.array 4 26 1,zero:=some [.string ⟨#[]⟩,.string ⟨#[]⟩,.string ⟨#[]⟩,.string ⟨#[]⟩],flat:=some [.string,.string,.string,.string] }:=rfl
theorem tt_86:tt 86=some { size:=1,bytes:=24,agg:=false,kind:=.slice 26 1,zero:=some [.slice none 0 0],flat:=none }:=rfl
theorem tt_93:tt 93=some { size:=6,bytes:=96,agg:=true,kind:=.array 2 37 3,zero:=some [.string ⟨#[]⟩,.string ⟨#[]⟩,.string ⟨#[]⟩,.string ⟨#[]⟩,.string ⟨#[]⟩,.string ⟨#[]⟩],flat:=some [.string,.string,.string,.string,.string,.string] }:=rfl
theorem tt_101:tt 101=some { size:=9,bytes:=144,agg:=true,kind:=.array 3 37 3,zero:=some [.string ⟨#[]⟩,.string ⟨#[]⟩,.string ⟨#[]⟩,.string ⟨#[]⟩,.string ⟨#[]⟩,.string ⟨#[]⟩,.string ⟨#[]⟩,.string ⟨#[]⟩,.string ⟨#[]⟩],flat:=some [.string,.string,.string,.string,.string,.string,.string,.string,.string] }:=rfl
theorem tt_102:tt 102=some { size:=12,bytes:=120,agg:=true,kind:=.array 3 42 4,zero:=some [.int .i64 0,.int .i64 0,.int .i64 0,.string ⟨#[]⟩,.int .i64 0,.int .i64 0,.int .i64 0,.string ⟨#[]⟩,.int .i64 0,.int .i64 0,.int .i64 0,.string ⟨#[]⟩],flat:=some [.int .i64,.int .i64,.int .i64,.string,.int .i64,.int .i64,.int .i64,.string,.int .i64,.int .i64,.int .i64,.string] }:=rfl
theorem tt_104:tt 104=some { size:=21,bytes:=264,agg:=true,kind:=.struct [(0,9,true),(9,12,true)],zero:=some [.string ⟨#[]⟩,.string ⟨#[]⟩,.string ⟨#[]⟩,.string ⟨#[]⟩,.string ⟨#[]⟩,.string ⟨#[]⟩,.string ⟨#[]⟩,.string ⟨#[]⟩,.string ⟨#[]⟩,.int .i64 0,.int .i64 0,.int .i64 0,.string ⟨#[]⟩,.int .i64 0,.int .i64 0,.int .i64 0,.string ⟨#[]⟩,.int .i64 0,.int .i64 0,.int .i64 0,.string ⟨#[]⟩],flat:=some [.string,.string,.string,.string,.string,.string,.string,.string,.string,.int .i64,.int .i64,.int .i64,.string,.int .i64,.int .i64,.int .i64,.string,.int .i64,.int .i64,.int .i64,.string] }:=rfl
theorem tt_125:tt 125=some { size:=12,bytes:=192,agg:=true,kind:=.array 4 37 3,zero:=some [.string ⟨#[]⟩,.string ⟨#[]⟩,.string ⟨#[]⟩,.string ⟨#[]⟩,.string ⟨#[]⟩,.string ⟨#[]⟩,.string ⟨#[]⟩,.string ⟨#[]⟩,.string ⟨#[]⟩,.string ⟨#[]⟩,.string ⟨#[]⟩,.string ⟨#[]⟩],flat:=some [.string,.string,.string,.string,.string,.string,.string,.string,.string,.string,.string,.string] }:=rfl
theorem tt_143:tt 143=some { size:=1,bytes:=24,agg:=false,kind:=.slice 248 1,zero:=some [.slice none 0 0],flat:=none }:=rfl
theorem tt_145:tt 145=some { size:=2,bytes:=32,agg:=true,kind:=.struct [(0,1,false),(1,1,false)],zero:=some [.int .i64 0,.slice none 0 0],flat:=none }:=rfl
theorem tt_150:tt 150=some { size:=1,bytes:=24,agg:=false,kind:=.slice 3 1,zero:=some [.slice none 0 0],flat:=none }:=rfl
theorem tt_152:tt 152=some { size:=2,bytes:=32,agg:=true,kind:=.struct [(0,1,false),(1,1,false)],zero:=some [.bool false,.slice none 0 0],flat:=none }:=rfl
theorem tt_161:tt 161=some { size:=4,bytes:=64,agg:=true,kind:=.struct [(0,2,true),(2,2,true)],zero:=some [.int .i64 0,.slice none 0 0,.int .i64 0,.slice none 0 0],flat:=none }:=rfl
theorem tt_172:tt 172=some { size:=12,bytes:=192,agg:=true,kind:=.array 3 161 4,zero:=some [.int .i64 0,.slice none 0 0,.int .i64 0,.slice none 0 0,.int .i64 0,.slice none 0 0,.int .i64 0,.slice none 0 0,.int .i64 0,.slice none 0 0,.int .i64 0,.slice none 0 0],flat:=none }:=rfl
theorem tt_173:tt 173=some { size:=12,bytes:=192,agg:=true,kind:=.array 3 161 4,zero:=some [.int .i64 0,.slice none 0 0,.int .i64 0,.slice none 0 0,.int .i64 0,.slice none 0 0,.int .i64 0,.slice none 0 0,.int .i64 0,.slice none 0 0,.int .i64 0,.slice none 0 0],flat:=none }:=rfl
theorem tt_175:tt 175=some { size:=16,bytes:=256,agg:=true,kind:=.struct [(0,12,true),(12,4,true)],zero:=some [.int .i64 0,.slice none 0 0,.int .i64 0,.slice none 0 0,.int .i64 0,.slice none 0 0,.int .i64 0,.slice none 0 0,.int .i64 0,.slice none 0 0,.int .i64 0,.slice none 0 0,.int .i64 0,.slice none 0 0,.int .i64 0,.slice none 0 0],flat:=none }:=rfl
theorem tt_177:tt 177=some { size:=48,bytes:=768,agg:=true,kind:=.struct [(0,12,true),(12,12,true),(24,12,true),(36,12,true)],zero:=some [.int .i64 0,.slice none 0 0,.int .i64 0,.slice none 0 0,.int .i64 0,.slice none 0 0,.int .i64 0,.slice none 0 0,.int .i64 0,.slice none 0 0,.int .i64 0,.slice none 0 0,.int .i64 0,.slice none 0 0,.int .i64 0,.slice none 0 0,.int .i64 0,.slice none 0 0,.int .i64 0,.slice none 0 0,.int .i64 0,.slice none 0 0,.int .i64 0,.slice none 0 0,.int .i64 0,.slice none 0 0,.int .i64 0,.slice none 0 0,.int .i64 0,.slice none 0 0,.int .i64 0,.slice none 0 0,.int .i64 0,.slice none 0 0,.int .i64 0,.slice none 0 0,.int .i64 0,.slice none 0 0,.int .i64 0,.slice none 0 0,.int .i64 0,.slice none 0 0,.int .i64 0,.slice none 0 0,.int .i64 0,.slice none 0 0,.int .i64 0,.slice none 0 0],flat:=none }:=rfl
theorem tt_183:tt 183=some { size:=1,bytes:=24,agg:=false,kind:=.slice 37 3,zero:=some [.slice none 0 0],flat:=none }:=rfl
theorem tt_224:tt 224=some { size:=1,bytes:=16,agg:=false,kind:=.other,zero:=some [.nilIface],flat:=none }:=rfl
theorem tt_230:tt 230=some { size:=1,bytes:=8,agg:=false,kind:=.int .u64,zero:=some [.int .u64 0],flat:=some [.int .u64] }:=rfl
theorem tt_237:tt 237=some { size:=1,bytes:=24,agg:=false,kind:=.slice 24 1,zero:=some [.slice none 0 0],flat:=none }:=rfl
theorem tt_242:tt 242=some { size:=36,bytes:=576,agg:=true,kind:=.array 3 173 12,zero:=some [.int .i64 0,.slice none 0 0,.int .i64 0,.slice none 0 0,.int .i64 0,.slice none 0 0,.int .i64 0,.slice none 0 0,.int .i64 0,.slice none 0 0,.int .i64 0,.slice none 0 0,.int .i64 0,.slice none 0 0,.int .i64 0,.slice none 0 0,.int .i64 0,.slice none 0 0,.int .i64 0,.slice none 0 0,.int .i64 0,.slice none 0 0,.int .i64 0,.slice none 0 0,.int .i64 0,.slice none 0 0,.int .i64 0,.slice none 0 0,.int .i64 0,.slice none 0 0,.int .i64 0,.slice none 0 0,.int .i64 0,.slice none 0 0,.int .i64 0,.slice none 0 0],flat:=none }:=rfl
theorem tt_248:tt 248=some { size:=1,bytes:=8,agg:=false,kind:=.int .u64,zero:=some [.int .u64 0],flat:=some [.int .u64] }:=rfl
theorem tt_269:tt 269=some { size:=1,bytes:=24,agg:=false,kind:=.slice 5 1,zero:=some [.slice none 0 0],flat:=none }:=rfl
theorem tt_276:tt 276=some { size:=1,bytes:=24,agg:=false,kind:=.slice 9 1,zero:=some [.slice none 0 0],flat:=none }:=rfl
theorem tt_279:tt 279=some { size:=1,bytes:=8,agg:=false,kind:=.other,zero:=some [.pointer none],flat:=none }:=rfl
theorem tt_281:tt 281=some { size:=2,bytes:=32,agg:=true,kind:=.struct [(0,1,false),(1,1,false)],zero:=some [.pointer none,.slice none 0 0],flat:=none }:=rfl
theorem tt_282:tt 282=some { size:=1,bytes:=4,agg:=false,kind:=.int .u32,zero:=some [.int .u32 0],flat:=some [.int .u32] }:=rfl
theorem tt_305:tt 305=some { size:=1,bytes:=8,agg:=false,kind:=.other,zero:=some [.pointer none],flat:=none }:=rfl
theorem tt_314:tt 314=some { size:=32,bytes:=32,agg:=true,kind:=.array 32 5 1,zero:=some [.int .u8 0,.int .u8 0,.int .u8 0,.int .u8 0,.int .u8 0,.int .u8 0,.int .u8 0,.int .u8 0,.int .u8 0,.int .u8 0,.int .u8 0,.int .u8 0,.int .u8 0,.int .u8 0,.int .u8 0,.int .u8 0,.int .u8 0,.int .u8 0,.int .u8 0,.int .u8 0,.int .u8 0,.int .u8 0,.int .u8 0,.int .u8 0,.int .u8 0,.int .u8 0,.int .u8 0,.int .u8 0,.int .u8 0,.int .u8 0,.int .u8 0,.int .u8 0],flat:=some [.int .u8,.int .u8,.int .u8,.int .u8,.int .u8,.int .u8,.int .u8,.int .u8,.int .u8,.int .u8,.int .u8,.int .u8,.int .u8,.int .u8,.int .u8,.int .u8,.int .u8,.int .u8,.int .u8,.int .u8,.int .u8,.int .u8,.int .u8,.int .u8,.int .u8,.int .u8,.int .u8,.int .u8,.int .u8,.int .u8,.int .u8,.int .u8] }:=rfl
theorem mixed:Tryz.prog.follows .mixedOrders=true:=by kernel_rfl
def tab5 (w:World):Option (Array Value):=match (w.heap[5]?:Option Obj) with
  | some (.cells cs _ _)=>some cs
  | _=>none
def G (w:World):Prop:=tab5 w=some (Lib.pow10Tab.map fun z=>Value.int .u64 z).toArray
theorem G_below (w w':World) (h:RowKit.Below w.heap.size w w') (g:G w):G w':=by
  have h5:5 < w.heap.size:=by
    rcases Nat.lt_or_ge 5 w.heap.size with h|h
    · exact h
    · simp [G,tab5,Array.getElem?_eq_none h] at g
  rw [G,tab5,h.block 5 h5]
  exact g
abbrev I (z:Int):AV:=.agg [.int z]
abbrev F (q:Rat):AV:=.agg [.frac q]
abbrev B (b:Bool):AV:=.one (.v (.bool b))
abbrev N (n:Int):AV:=.one (.v (.int .i64 n))
abbrev U (n:Int):AV:=.one (.v (.int .u64 n))
abbrev S (s:ByteArray):AV:=.one (.v (.string s))
abbrev L (l:List Int):AV:=.one (.ints .u64 l)
end Go.Proofs
end
