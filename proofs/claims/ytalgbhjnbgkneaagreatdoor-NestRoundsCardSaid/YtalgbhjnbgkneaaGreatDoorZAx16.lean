/- Lemmas on the program and its library, part Ax16. -/
import Derived.Test.YtalgbhjnbgkneaaGreatDoorZNum8
set_option linter.unusedVariables false
set_option linter.unusedSimpArgs false
section
namespace Go.Ax
def rowG (k:IntKind) (ls:List Int) (i:Nat):List Leaf:=if i < ls.length then [.v (.int k (ls.getD i 0))] else [.u]
theorem rowG_lt {k:IntKind} {ls:List Int} {i:Nat} (h:i < ls.length):rowG k ls i= [.v (.int k (ls.getD i 0))]:=if_pos h
theorem rowG_cl {k:IntKind} {ls:List Int} {n:Nat} (i:Nat):clL n (rowG k ls i):=by
  unfold rowG;split <;> exact ⟨trivial,trivial⟩
variable {c:Ctx} {Q:Exit→St→Prop} {st:St}
abbrev St.appI (st:St) (dst:Option Tmp) (b n c':Nat) (k:IntKind) (ls:List Int):St:=st.appG dst b 1 n c' (rowG k ls)
theorem getD_app_left {l l':List Int} {i:Nat} (h:i < l.length):(l++l').getD i 0=l.getD i 0:=by
  simp [List.getD_eq_getElem?_getD,List.getElem?_append_left h]
theorem getD_app_right {l l':List Int} {i:Nat} (h:¬i < l.length):(l++l').getD i 0=l'.getD (i - l.length) 0:=by
  simp [List.getD_eq_getElem?_getD,List.getElem?_append_right (Nat.le_of_not_lt h)]
theorem outK_appI {ops:Array Oper} {K:St→Prop} {ps:List Prop} {o:Oper} {rest:List Oper} {sh:List Sh} (hc:CtxOk c) (b n cc m:Nat) (k:IntKind) (ls new:List Int) {x y:Operand} {T:TypeId} {bytes:Nat} {zs:List Value}
    (ho:appOf o=some (x,y,T)) (ht:sliceOf c.tt T=some (1,bytes,zs)) (hb:Nat.ble c.nb0 b=true) (hx:Sub (evAt st.t x) (.one (.gr b 1 n cc))) (hy:Sub (evAt st.t y) (.one (.row 1 m fun i=> [.v (.int k (new.getD i 0))])))
    (hbox:(ls= []∧cc=0)∨∃ro,st.h b=some ⟨1,cc,rowG k ls,ro⟩) (hls:ls.length=n) (hnew:new.length=m) (hm:0 < m) (hn:n≤cc) (h63:n+m≤9223372036854775807) (hbytes:(n+m)*bytes≤140737488355328) (hp:AllP ps)
    (h:∀c',n+m≤c'→OutK c.P c.G c.ns ops (HandS c ops K) (absGo c.tt c.ns ops rest (st.appI o.dst b (n+m) c' k (ls++new)) [] []) fun st' _=>K st'):OutK c.P c.G c.ns ops (HandS c ops K) (.hand ps o rest st sh) fun st' _=>K st':=by
  refine outK_app hc b n cc m (rowG k ls) (fun i=> [.v (.int k (new.getD i 0))]) ho ht (Nat.le_of_ble_eq_true hb) hx hy hn ?_ (fun i _=>rowG_cl i) hm h63 hbytes hp fun c' hc'=>?_
  · rcases hbox with ⟨h1,h2⟩|h
    · subst h1;exact .inl ⟨hls.symm,h2⟩
    · exact .inr h
  · have e:(fun i=>if i < n then rowG k ls i else if i < n+m then (fun i=> [Leaf.v (.int k (new.getD i 0))]) (i - n) else List.replicate 1 .u)=rowG k (ls++new):=by
      funext i
      unfold rowG
      rw [List.length_append,hls,hnew]
      by_cases h1:i < n
      · rw [if_pos h1,if_pos h1,if_pos (by omega),getD_app_left (by omega)]
      · rw [if_neg h1]
        by_cases h2:i < n+m
        · rw [if_pos h2,if_pos h2,getD_app_right (by omega),hls]
        · rw [if_neg h2,if_neg h2];rfl
    have:=h c' hc'
    have e2:st.app o.dst b 1 n m c' (rowG k ls) (fun i=> [.v (.int k (new.getD i 0))])=st.appI o.dst b (n+m) c' k (ls++new):=by
      unfold St.app St.appI
      rw [e]
    rw [e2]
    exact this
theorem Wp_frzG {code:Code} (hc:CtxOk c) (b s n cc:Nat) (k:IntKind) (ls:List Int) (l:List (Nat×AV)) (hs:List (Nat×Box)) (nb:Nat) (l':List (Nat×AV)) (hs':List (Nat×Box))
    (hw:Weaker c.nb0 st (stOf ((s,.one (.gr b 1 n cc)) :: l) ((b,⟨1,cc,rowG k ls,true⟩) :: hs) nb))
    (hb:Nat.ble c.nb0 b=true) (hn:ls.length=n) (hcc:n≤cc)
    (hl:l.map (fun p=>(p.1,thaw b k n (fun i=>ls.getD i 0) p.2))=l') (hh:hs.map (fun p=>(p.1,thawBox b k n (fun i=>ls.getD i 0) p.2))=hs') (hnb:∀p∈hs,p.1≠b)
    (h:Wp c code Q (stOf ((s,.one (.ints k ls)) :: l') hs' nb)):Wp c code Q st:=by
  refine Wp_weaker hw ?_
  refine Wp_freezeN hc b (Nat.le_of_ble_eq_true hb) (bx:=⟨1,cc,rowG k ls,true⟩) (by simp [stOf,boxes,boxL]) rfl n hcc k (fun i=>ls.getD i 0) (fun i hi=>rowG_lt (by omega)) ?_
  have e:(List.range n).map (fun j=>ls.getD j 0)=ls:=by
    subst hn
    apply List.ext_getElem
    · simp
    · intro i h1 h2;simp [h2]
  have et:(⟨fun m=>thaw b k n (fun i=>ls.getD i 0) ((stOf ((s,.one (.gr b 1 n cc)) :: l) ((b,⟨1,cc,rowG k ls,true⟩) :: hs) nb).t m),fun x=>if x=b then none else ((stOf ((s,.one (.gr b 1 n cc)) :: l) ((b,⟨1,cc,rowG k ls,true⟩) :: hs) nb).h x).map (thawBox b k n (fun i=>ls.getD i 0)),nb,tru⟩:St)=stOf ((s,.one (.ints k ls)) :: l') hs' nb:=by
    simp only [stOf,St.mk.injEq,and_true]
    refine ⟨?_,?_⟩
    · funext m
      rw [slots_thaw,List.map_cons,hl]
      simp only [thaw,thawL,if_true,Nat.le_refl,and_self,hcc,e]
    · funext x
      by_cases hx:x=b
      · subst hx
        rw [if_pos rfl]
        have:∀(q:List (Nat×Box)),(∀p∈q,p.1≠x)→boxes q x=none:=by
          intro q
          induction q with
          | nil=>intro _;rfl
          | cons p q ih =>
            intro hq
            have h1:=hq p (List.mem_cons_self ..)
            simp only [boxes,boxL]
            cases e1:Nat.beq x p.1 with
            | true=>exact absurd (Nat.eq_of_beq_eq_true e1).symm h1
            | false=>exact ih fun p hp=>hq p (List.mem_cons_of_mem _ hp)
        rw [this]
        intro p hp
        rw [←hh] at hp
        obtain ⟨q,hq,rfl⟩:=List.mem_map.1 hp
        exact hnb q hq
      · rw [if_neg hx]
        have:boxes ((b,⟨1,cc,rowG k ls,true⟩) :: hs) x=boxes hs x:=by
          simp only [boxes,boxL]
          cases e1:Nat.beq x b with
          | true=>exact absurd (Nat.eq_of_beq_eq_true e1) hx
          | false=>rfl
        rw [this,boxes_thaw,hh]
  rw [←et] at h
  exact h
def AppK (p:Nat→Prop):Prop:=∀c',p c'
theorem appK_intro {q:Nat→Prop} {r:Nat→Prop} (h:∀c',q c'→r c'):AppK fun c'=>q c'→r c':=h
theorem outK_app_gr {ops:Array Oper} {K:St→Prop} {ps:List Prop} {o:Oper} {rest:List Oper} {sh:List Sh} (hc:CtxOk c) {b n cc:Nat} {k:IntKind} {ls:List Int} {d:Int} {x y:Operand} {T:TypeId} {bytes:Nat} {zs:List Value} {g':Nat→List Leaf} {ro:Bool}
    (ho:Is (appOf o) (some (x,y,T))) (ht:Is (sliceOf c.tt T) (some (1,bytes,zs))) (hx:Is (evAt st.t x) (.one (.gr b 1 n cc))) (hy:Is (evAt st.t y) (.one (.row 1 1 g'))) (hg:Is (g' 0) [.v (.int k d)])
    (hbox:Is (st.h b) (some ⟨1,cc,rowG k ls,ro⟩)) (hb:Is (Nat.ble c.nb0 b) true) (hp:AllP ps) (hs:AllP [ls.length=n,n≤cc,n≤1000000000000,bytes≤100])
    (h:AppK fun c'=>n+1≤c'→OutK c.P c.G c.ns ops (HandS c ops K) (absGo c.tt c.ns ops rest (st.appI o.dst b (n+1) c' k (ls++ [d])) [] []) fun st' _=>K st'):OutK c.P c.G c.ns ops (HandS c ops K) (.hand ps o rest st sh) fun st' _=>K st':=by
  obtain ⟨h1,h2,h3,h4,_⟩:=hs
  have hx:evAt st.t x=_:=hx
  have hy:evAt st.t y=_:=hy
  have hg:g' 0=_:=hg
  have hm:(n+1)*bytes≤(1000000000000+1)*100:=Nat.mul_le_mul (by omega) h4
  refine outK_appI hc b n cc 1 k ls [d] ho ht hb (hx ▸ Sub.refl _) (hy ▸ ?_) (.inr ⟨ro,hbox⟩) h1 rfl Nat.zero_lt_one h2 (by omega) (by omega) hp h
  rintro E w v ⟨_,h⟩
  refine ⟨rfl,h.imp id ?_⟩
  rintro ⟨b,o,c,h1,h2,h3,h4⟩
  refine ⟨b,o,c,h1,h2,h3,fun i hi=>?_⟩
  obtain rfl:i=0:=by omega
  have:=h4 0 hi
  rw [hg] at this
  exact this
theorem outK_app_nil {ops:Array Oper} {K:St→Prop} {ps:List Prop} {o:Oper} {rest:List Oper} {sh:List Sh} (hc:CtxOk c) {k:IntKind} {d:Int} {x y:Operand} {T:TypeId} {bytes:Nat} {zs:List Value} {g':Nat→List Leaf}
    (ho:Is (appOf o) (some (x,y,T))) (ht:Is (sliceOf c.tt T) (some (1,bytes,zs))) (hx:Is (evAt st.t x) (.one (.v (.slice none 0 0)))) (hy:Is (evAt st.t y) (.one (.row 1 1 g'))) (hg:Is (g' 0) [.v (.int k d)])
    (hb:Is (Nat.ble c.nb0 st.nb) true) (hp:AllP ps) (hs:AllP [bytes≤100])
    (h:AppK fun c'=>1≤c'→OutK c.P c.G c.ns ops (HandS c ops K) (absGo c.tt c.ns ops rest (st.appI o.dst st.nb 1 c' k [d]) [] []) fun st' _=>K st'):OutK c.P c.G c.ns ops (HandS c ops K) (.hand ps o rest st sh) fun st' _=>K st':=by
  obtain ⟨h4,_⟩:=hs
  have hx:evAt st.t x=_:=hx
  have hy:evAt st.t y=_:=hy
  have hg:g' 0=_:=hg
  refine outK_appI hc st.nb 0 0 1 k [] [d] ho ht hb (hx ▸ sub_nil_gr) (hy ▸ ?_) (.inl ⟨rfl,rfl⟩) rfl rfl Nat.zero_lt_one (Nat.le_refl _) (by omega) (by omega) hp (fun c' hc'=>h c' (by omega))
  rintro E w v ⟨_,h⟩
  refine ⟨rfl,h.imp id ?_⟩
  rintro ⟨b,o,c,h1,h2,h3,h4⟩
  refine ⟨b,o,c,h1,h2,h3,fun i hi=>?_⟩
  obtain rfl:i=0:=by omega
  have:=h4 0 hi
  rw [hg] at this
  exact this
-- axioms of outK_appI
-- axioms of Wp_frzG
end Go.Ax
end
section
namespace Go.Ax
def frzL (b:Nat) (ls:List Leaf):Leaf→Leaf
  | .ptr b' sz i o => match Nat.beq b' b with
    | true => match Nat.beq i 0, dropL ls o with
      | true,some r=>.pp r
      | _,_=>.u
    | false=>.ptr b' sz i o
  | .own b' sz i m c => match Nat.beq b' b with
    | true=>.u
    | false=>.own b' sz i m c
  | .gr b' sz m c => match Nat.beq b' b with
    | true=>.u
    | false=>.gr b' sz m c
  | .fn f xs ys=>.fn f (frzLs b ls xs) (frzLs b ls ys)
  | l=>l
where frzLs (b:Nat) (ls:List Leaf):List Leaf→List Leaf
  | []=> []
  | l :: r=>frzL b ls l :: frzLs b ls r
mutual
def frz (b:Nat) (ls:List Leaf):AV→AV
  | .one l=>.one (frzL b ls l)
  | .agg xs=>.agg (frzL.frzLs b ls xs)
  | .tup xs=>.tup (frzs b ls xs)
  | .u=>.u
def frzs (b:Nat) (ls:List Leaf):List AV→List AV
  | []=> []
  | x :: xs=>frz b ls x :: frzs b ls xs
end
def frzBox (b:Nat) (ls:List Leaf) (bx:Box):Box:={ bx with g:=fun i=>frzL.frzLs b ls (bx.g i) }
def hfrz (h:Nat→Option Box) (b:Nat) (ls:List Leaf) (x:Nat):Option Box:=match Nat.beq x b with
  | true=>none
  | false=>(h x).map (frzBox b ls)
section
variable {E:Env} {w:World} {b kb:Nat} {ls:List Leaf} {es:List Value}
theorem into_drop:Into 0 E (E.drop b) w:=⟨fun _ _ h=>absurd h (Nat.not_lt_zero _),fun _ h=>drop_ok h⟩
mutual
theorem frzL_R (hb:E.ρ b=some kb) (hok:(E.drop b).ok w kb) (hls:LeavesR (E.drop b).shut w ls es) (hr:w.rangeAt kb 0 es):∀{l:Leaf} {cs:List Value},l.R E w cs→(frzL b ls l).R (E.drop b) w cs
  | .ptr b' sz i o, cs, h => by
    obtain ⟨j,h1,rfl⟩:=h
    simp only [frzL]
    split
    · rename_i e
      have e:=Nat.eq_of_beq_eq_true e
      subst e
      rw [hb] at h1;cases h1
      split
      · rename_i r hi hd
        have hi:=Nat.eq_of_beq_eq_true hi
        subst hi
        refine ⟨kb,o,es.drop o,by simp,hok,dropL_R hls hd,?_⟩
        intro d v hv
        rw [List.getElem?_drop] at hv
        have:=hr _ _ hv
        rwa [Nat.zero_add] at this
      · exact ⟨_,rfl,rfl⟩
    · rename_i e;exact ⟨j,by simp [Env.drop,beq_false e,h1],rfl⟩
  | .own b' sz i m c, cs, h => by
    obtain ⟨j,h1,rfl⟩:=h
    simp only [frzL]
    split
    · exact ⟨_,rfl,rfl⟩
    · rename_i e;exact ⟨j,by simp [Env.drop,beq_false e,h1],rfl⟩
  | .gr b' sz m c, cs, h => by
    simp only [frzL]
    split
    · rcases h with ⟨rfl,rfl,rfl|⟨_,_,rfl,_⟩⟩|⟨j,h1,rfl⟩<;> exact ⟨_,rfl,rfl⟩
    · rename_i e
      rcases h with h|⟨j,h1,rfl⟩
      · exact .inl ⟨h.1,h.2.1,h.2.2.mono fun _ hk=>drop_ok hk⟩
      · exact .inr ⟨j,by simp [Env.drop,beq_false e,h1],rfl⟩
  | .fn f a c, cs, h => by
    obtain ⟨xs,ys,rfl,h1,h2⟩:=h
    exact ⟨xs,ys,rfl,frzLs_R hb hok hls hr h1,frzLs_R hb hok hls hr h2⟩
  | .v x,cs,h=>(into_drop (b:=b)).leaf (l:=.v x) trivial h
  | .u,cs,h=>(into_drop (b:=b)).leaf (l:=.u) trivial h
  | .pp x,cs,h=>(into_drop (b:=b)).leaf (l:=.pp x) trivial h
  | .int z,cs,h=>(into_drop (b:=b)).leaf (l:=.int z) trivial h
  | .frac q,cs,h=>(into_drop (b:=b)).leaf (l:=.frac q) trivial h
  | .rint z,cs,h=>(into_drop (b:=b)).leaf (l:=.rint z) trivial h
  | .ints k l,cs,h=>(into_drop (b:=b)).leaf (l:=.ints k l) trivial h
  | .nn k l,cs,h=>(into_drop (b:=b)).leaf (l:=.nn k l) trivial h
  | .row sz n g,cs,h=>(into_drop (b:=b)).leaf (l:=.row sz n g) trivial h
theorem frzLs_R (hb:E.ρ b=some kb) (hok:(E.drop b).ok w kb) (hls:LeavesR (E.drop b).shut w ls es) (hr:w.rangeAt kb 0 es):∀{xs:List Leaf} {cs:List Value},LeavesR E w xs cs→LeavesR (E.drop b) w (frzL.frzLs b ls xs) cs
  | [],_,h=>h
  | _ :: _,_,h=>by obtain ⟨xs,ys,a,c,d⟩:=h;exact ⟨xs,ys,a,frzL_R hb hok hls hr c,frzLs_R hb hok hls hr d⟩
end
theorem frzL_size (l:Leaf):(frzL b ls l).size=l.size:=by
  cases l <;> simp only [frzL] <;> (repeat' split) <;> rfl
theorem sizes_frz:∀(xs:List Leaf),sizes (frzL.frzLs b ls xs)=sizes xs
  | []=>rfl
  | l :: xs=>by simp only [frzL.frzLs,sizes,frzL_size,sizes_frz xs]
mutual
theorem frz_R (hb:E.ρ b=some kb) (hok:(E.drop b).ok w kb) (hls:LeavesR (E.drop b).shut w ls es) (hr:w.rangeAt kb 0 es):∀{x:AV} {v:Value},RV E w x v→RV (E.drop b) w (frz b ls x) v
  | .one _,_,h=>⟨by rw [frzL_size];exact h.1,frzL_R hb hok hls hr h.2⟩
  | .agg _,_,h=>by obtain ⟨cs,a,c⟩:=h;exact ⟨cs,a,frzLs_R hb hok hls hr c⟩
  | .tup _,_,h=>by obtain ⟨vs,a,c⟩:=h;exact ⟨vs,a,frzs_R hb hok hls hr c⟩
  | .u,_,_=>trivial
theorem frzs_R (hb:E.ρ b=some kb) (hok:(E.drop b).ok w kb) (hls:LeavesR (E.drop b).shut w ls es) (hr:w.rangeAt kb 0 es):∀{xs:List AV} {vs:List Value},RVs E w xs vs→RVs (E.drop b) w (frzs b ls xs) vs
  | [],_,h=>h
  | _ :: _,_,h=>by obtain ⟨v,r,a,c,d⟩:=h;exact ⟨v,r,a,frz_R hb hok hls hr c,frzs_R hb hok hls hr d⟩
end
end
variable {c:Ctx} {Q:Exit→St→Prop} {st:St}
theorem drop_own (hc:CtxOk c) {b kb:Nat} (hb0:c.nb0≤b) {E:Env} {a:Act} {w:World} (s:SR c st E a w) (h1:E.ρ b=some kb):(E.drop b).ok w kb:=by
  refine ⟨s.env.r _ _ h1,s.ownM b kb (Nat.le_trans hc.ns hb0) h1,fun x hx=>?_⟩
  by_cases e:x=b
  · simp [Env.drop,e] at hx
  · simp [Env.drop,e] at hx;exact e (s.env.inj _ _ _ hx h1)
theorem drop_sr (_hc:CtxOk c) {b:Nat} (hb0:c.nb0≤b) {E:Env} {a:Act} {w:World} (s:SR c st E a w) {st':St} (ht:∀m,RV (E.drop b) w (st'.t m) (a.tmps.getD m undef)) (hh:∀x bx,st'.h x=some bx→BoxR (E.drop b) w x bx) (hn:st'.nb=st.nb) (hg:st'.gh=tru∨st'.gh=st.gh:=by first|exact .inl rfl|exact .inr rfl):SR c st' (E.drop b) a w:=by
  refine ⟨s.size,s.defers,ht,hh,⟨s.env.m,fun x j hj=>?_,fun x y j hx hy=>?_⟩,s.below,fun x j hx0 hj=>?_,fun x hx=>?_,s.m,fun x hx=>?_,fun x j hx0 hj=>?_,?_⟩
  · by_cases e:x=b
    · simp [Env.drop,e] at hj
    · simp [Env.drop,e] at hj;exact s.env.r _ _ hj
  · by_cases e:x=b
    · simp [Env.drop,e] at hx
    · by_cases e':y=b
      · simp [Env.drop,e'] at hy
      · simp [Env.drop,e] at hx;simp [Env.drop,e'] at hy;exact s.env.inj _ _ _ hx hy
  · by_cases e:x=b
    · simp [Env.drop,e] at hj
    · simp [Env.drop,e] at hj;exact s.own x j hx0 hj
  · have:x≠b:=by omega
    simp [Env.drop,this,s.low x hx]
  · have hx:st'.nb≤x:=hx
    by_cases e:x=b
    · simp [Env.drop,e]
    · simp [Env.drop,e];exact s.free x (by show st.nb≤x;omega)
  · by_cases e:x=b
    · simp [Env.drop,e] at hj
    · simp [Env.drop,e] at hj;exact s.ownM x j hx0 hj
  · rcases hg with e|e
    · rw [e];exact ghR_tru
    · rw [e];exact s.gh.same ⟨rfl,rfl,rfl,rfl,Nat.le_refl _,fun _ _=>rfl,fun _ _ _=>rfl⟩
theorem Wp_frzP {code:Code} (hc:CtxOk c) (b:Nat) {sz:Nat} {g:Nat→List Leaf} {ro:Bool} (hbx:Is (st.h b) (some ⟨sz,1,g,ro⟩)) (hcl:clL 0 (g 0)) (hb:Nat.ble c.nb0 b=true)
    (h:Wp c code Q ⟨fun m=>frz b (g 0) (st.t m),hfrz st.h b (g 0),st.nb,st.gh⟩):Wp c code Q st:=by
  intro nn rr hro E a w s
  have hb0:=Nat.le_of_ble_eq_true hb
  rcases s.boxes b _ hbx with ⟨_,q⟩|⟨kb,cs,T,h1,h2,h3,h4⟩
  · cases q
  obtain ⟨es,h5,h6,h7⟩:=h4 0 Nat.zero_lt_one
  have hok:=drop_own hc hb0 s h1
  have hls:LeavesR (E.drop b).shut w (g 0) es:=(into_shut (E.drop b) w).leaves hcl (into_drop.leaves hcl h6)
  have hr:w.rangeAt kb 0 es:=fun j v hv=>by
    rw [cell_of_row w kb _ cs T (0,0) h2]
    have:=h7 j v hv
    simpa using this
  refine h nn rr hro (E.drop b) a w (drop_sr hc hb0 s (fun m=>frz_R h1 hok hls hr (s.slots m)) (fun x bx' hx=>?_) rfl)
  have hx:hfrz st.h b (g 0) x=some bx':=hx
  unfold hfrz at hx
  split at hx
  · cases hx
  · rename_i e
    have e:=beq_false e
    simp only [Option.map_eq_some_iff] at hx
    obtain ⟨bx1,hx2,rfl⟩:=hx
    rcases s.boxes x bx1 hx2 with g0|⟨kx,cx,Tx,g1,g2,g3,g4⟩
    · exact .inl g0
    refine .inr ⟨kx,cx,Tx,by simp [Env.drop,e,g1],g2,g3,fun i hi=>?_⟩
    obtain ⟨es',g5,g6,g7⟩:=g4 i hi
    exact ⟨es',by simp only [frzBox,sizes_frz];exact g5,frzLs_R h1 hok hls hr g6,g7⟩
theorem frzR_sr (hc:CtxOk c) (b s n cc sz:Nat) (g:Nat→List Leaf) (l:List (Nat×AV)) (hs:List (Nat×Box)) (nb:Nat)
    (hb:Nat.ble c.nb0 b=true) (hcc:n≤cc) (hcl:∀i,i < n→clL 0 (g i)) (hl:∀p∈l,p.1≠s∧kill b p.2=p.2) (hh:∀p∈hs,p.1≠b∧killBox b p.2=p.2)
    {E:Env} {a:Act} {w:World} (sr:SR c (stOf ((s,.one (.gr b sz n cc)) :: l) ((b,⟨sz,cc,g,true⟩) :: hs) nb) E a w):SR c (stOf ((s,.one (.row sz n g)) :: l) hs nb) (E.drop b) a w:=by
  have hb0:=Nat.le_of_ble_eq_true hb
  have hkill:∀{x:AV} {v:Value},RV E w x v→RV (E.drop b) w (kill b x) v:=fun {x v} hx=>by
    have hk:Keeps (E.hide b) w (E.drop b) w:=⟨fun x k h=>h,fun k h=>drop_ok (hide_ok.1 h),fun _ _=>rfl⟩
    exact hk.rv (kill_R hx)
  have hkills:∀{xs:List Leaf} {cs:List Value},LeavesR E w xs cs→LeavesR (E.drop b) w (xs.map (killL b)) cs:=fun {xs cs} hx=>by
    have hk:Keeps (E.hide b) w (E.drop b) w:=⟨fun x k h=>h,fun k h=>drop_ok (hide_ok.1 h),fun _ _=>rfl⟩
    exact hk.leaves (killLs_R hx)
  have hslot:∀m,m≠s→∀v,RV E w (slots l m) v→RV (E.drop b) w (slots l m) v:=by
    intro m _ v hv
    have e:kill b (slots l m)=slots l m:=by
      clear hv sr
      induction l with
      | nil=>rfl
      | cons p l ih =>
        simp only [slots,slotL]
        split
        · exact (hl p (by simp)).2
        · exact ih fun q hq=>hl q (by simp [hq])
    rw [←e];exact hkill hv
  have hbox:∀x bx,boxes hs x=some bx→x≠b∧killBox b bx=bx:=by
    intro x bx hx
    clear sr
    induction hs with
    | nil=>cases hx
    | cons p r ih =>
      simp only [boxes,boxL] at hx
      split at hx
      · rename_i e
        cases hx
        rw [Nat.eq_of_beq_eq_true e]
        exact hh p (by simp)
      · exact ih (fun q hq=>hh q (by simp [hq])) hx
  refine drop_sr hc hb0 sr (fun m=>?_) (fun x bx hx=>?_) rfl
  · have hm:=sr.slots m
    simp only [stOf,slots,slotL] at hm ⊢
    cases e:Nat.beq m s with
    | true =>
      rw [e] at hm
      obtain ⟨_,hm⟩:=hm
      refine ⟨rfl,?_⟩
      rcases hm with ⟨rfl,rfl,hm|⟨k,ok,hm,h1⟩⟩|⟨k,h1,hm⟩
      · exact .inl ⟨rfl,hm⟩
      · exact .inr ⟨k,ok,0,hm,drop_ok h1,Nat.le_refl _,fun i hi=>absurd hi (Nat.not_lt_zero _)⟩
      · refine .inr ⟨k,0,cc,hm,drop_own hc hb0 sr h1,hcc,fun i hi=>?_⟩
        rcases sr.boxes b ⟨sz,cc,g,true⟩ (by simp [stOf,boxes,boxL]) with ⟨_,q⟩|⟨kb,cs,T,g1,g2,g3,g4⟩
        · have q:cc=0:=q
          omega
        rw [h1] at g1;cases g1
        obtain ⟨es,q1,q2,q3⟩:=g4 i (by show i < cc;omega)
        refine ⟨es,q1,(into_shut (E.drop b) w).leaves (hcl i hi) (into_drop.leaves (hcl i hi) q2),fun j v hv=>?_⟩
        rw [Nat.zero_add,cell_of_row w k _ cs T (0,0) g2]
        exact q3 j v hv
    | false =>
      rw [e] at hm
      exact hslot m (beq_false e) _ hm
  · have hx:boxes hs x=some bx:=hx
    obtain ⟨e,hkb⟩:=hbox x bx hx
    have hx':(stOf ((s,.one (.gr b sz n cc)) :: l) ((b,⟨sz,cc,g,true⟩) :: hs) nb).h x=some bx:=by
      simp only [stOf,boxes,boxL]
      cases e1:Nat.beq x b with
      | true=>exact absurd (Nat.eq_of_beq_eq_true e1) e
      | false=>exact hx
    rcases sr.boxes x bx hx' with g0|⟨kx,cx,Tx,g1,g2,g3,g4⟩
    · exact .inl g0
    refine .inr ⟨kx,cx,Tx,by simp [Env.drop,e,g1],g2,g3,fun i hi=>?_⟩
    obtain ⟨es,g5,g6,g7⟩:=g4 i hi
    refine ⟨es,g5,?_,g7⟩
    have:bx.g i=(bx.g i).map (killL b):=by
      have:=congrArg (fun b=>b.g i) hkb
      simpa [killBox] using this.symm
    rw [this];exact hkills g6
theorem Wp_frzR {code:Code} (hc:CtxOk c) (b s n cc sz:Nat) (g:Nat→List Leaf) (l:List (Nat×AV)) (hs:List (Nat×Box)) (nb:Nat)
    (hw:Weaker c.nb0 st (stOf ((s,.one (.gr b sz n cc)) :: l) ((b,⟨sz,cc,g,true⟩) :: hs) nb))
    (hb:Nat.ble c.nb0 b=true) (hcc:n≤cc) (hcl:∀i,i < n→clL 0 (g i)) (hl:∀p∈l,p.1≠s∧kill b p.2=p.2) (hh:∀p∈hs,p.1≠b∧killBox b p.2=p.2)
    (h:Wp c code Q (stOf ((s,.one (.row sz n g)) :: l) hs nb)):Wp c code Q st:=by
  refine Wp_weaker hw ?_
  exact fun nn ro hro E a w sr=>h nn ro hro _ a w (frzR_sr hc b s n cc sz g l hs nb hb hcc hcl hl hh sr)
theorem Wp_frzC {code:Code} (hc:CtxOk c) (b s n cc:Nat) (hcc:n≤cc) (k:IntKind) (ls:List Int) (l:List (Nat×AV)) (hs:List (Nat×Box)) (nb:Nat) (l':List (Nat×AV)) (hs':List (Nat×Box))
    (hw:Weaker c.nb0 st (stOf ((s,.one (.own b 1 0 n cc)) :: l) ((b,⟨1,n,fun i=> [.v (.int k (ls.getD i 0))],false⟩) :: hs) nb))
    (hb:c.nb0≤b) (hn:ls.length=n)
    (hl:l.map (fun p=>(p.1,thaw b k n (fun i=>ls.getD i 0) p.2))=l') (hh:hs.map (fun p=>(p.1,thawBox b k n (fun i=>ls.getD i 0) p.2))=hs') (hnb:∀p∈hs,p.1≠b)
    (h:Wp c code Q (stOf ((s,.one (.ints k ls)) :: l') hs' nb)):Wp c code Q st:=by
  refine Wp_weaker hw ?_
  refine Wp_freeze hc b hb (bx:=⟨1,n,fun i=> [.v (.int k (ls.getD i 0))],false⟩) (by simp [stOf,boxes,boxL]) rfl k (fun i=>ls.getD i 0) (fun i _=>rfl) ?_
  have e:(List.range n).map (fun j=>ls.getD (0+j) 0)=ls:=by
    subst hn
    apply List.ext_getElem
    · simp
    · intro i h1 h2;simp [h2]
  have et:(⟨fun m=>thaw b k n (fun i=>ls.getD i 0) ((stOf ((s,.one (.own b 1 0 n cc)) :: l) ((b,⟨1,n,fun i=> [.v (.int k (ls.getD i 0))],false⟩) :: hs) nb).t m),fun x=>if x=b then none else ((stOf ((s,.one (.own b 1 0 n cc)) :: l) ((b,⟨1,n,fun i=> [.v (.int k (ls.getD i 0))],false⟩) :: hs) nb).h x).map (thawBox b k n (fun i=>ls.getD i 0)),nb,tru⟩:St)=stOf ((s,.one (.ints k ls)) :: l') hs' nb:=by
    simp only [stOf,St.mk.injEq,and_true]
    refine ⟨?_,?_⟩
    · funext m
      rw [slots_thaw,List.map_cons,hl]
      simp only [thaw,thawL,if_true,Nat.zero_add,Nat.le_refl,and_self,hcc]
      have e':(List.range n).map (fun j=>ls.getD j 0)=ls:=by simpa using e
      rw [e']
    · funext x
      by_cases hx:x=b
      · subst hx
        rw [if_pos rfl]
        have:∀(q:List (Nat×Box)),(∀p∈q,p.1≠x)→boxes q x=none:=by
          intro q
          induction q with
          | nil=>intro _;rfl
          | cons p q ih =>
            intro hq
            have h1:=hq p (List.mem_cons_self ..)
            simp only [boxes,boxL]
            cases e1:Nat.beq x p.1 with
            | true=>exact absurd (Nat.eq_of_beq_eq_true e1).symm h1
            | false=>exact ih fun p hp=>hq p (List.mem_cons_of_mem _ hp)
        rw [this]
        intro p hp
        rw [←hh] at hp
        obtain ⟨q,hq,rfl⟩:=List.mem_map.1 hp
        exact hnb q hq
      · rw [if_neg hx]
        have:boxes ((b,⟨1,n,fun i=> [.v (.int k (ls.getD i 0))],false⟩) :: hs) x=boxes hs x:=by
          simp only [boxes,boxL]
          cases e1:Nat.beq x b with
          | true=>exact absurd (Nat.eq_of_beq_eq_true e1) hx
          | false=>rfl
        rw [this,boxes_thaw,hh]
  rw [←et] at h
  exact h
-- axioms of Wp_frzC
-- axioms of Wp_frzP
-- axioms of Wp_frzR
end Go.Ax
end
