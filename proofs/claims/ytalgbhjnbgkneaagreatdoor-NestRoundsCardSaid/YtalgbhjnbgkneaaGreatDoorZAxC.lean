/- Lemmas on the program and its library, part AxC. -/
import Derived.OpenShut
import Derived.Test.YtalgbhjnbgkneaaGreatDoorZAx19
set_option linter.unusedVariables false
set_option linter.unusedSimpArgs false
section
namespace Go.Ax
open Go
inductive FK where
  | i (k:IntKind)
  | s
def fkFs (g:TypeId→Option (List FK)) (P:Program):List Field→Nat→Option (List FK)
  | [],_=>some []
  | f :: fs,o=>if f.offset=o then (g f.type).bind fun l=>if P.cellsOf f.type=l.length then (fkFs g P fs (o+l.length)).map (l++·) else none else none
def fkOf (P:Program):Nat→TypeId→Option (List FK)
  | 0,_=>none
  | n + 1, t => match P.underlying t with
    | some (.int k)=>some [.i k]
    | some .string=>some [.s]
    | some (.array m e)=>(fkOf P n e).bind fun l=>if P.cellsOf e=l.length∧P.cellsOf t=m*l.length then some (List.replicate m l).flatten else none
    | some (.struct fs)=>(fkFs (fkOf P n) P fs.toList 0).bind fun l=>if P.cellsOf t=l.length then some l else none
    | _=>none
def LOk:List FK→List Value→Prop
  | [],cs=>cs= []
  | .i k :: ks,cs=>∃z r,cs= .int k z :: r∧(Lit.int k z).wf=true∧LOk ks r
  | .s :: ks,cs=>∃s r,cs= .string s :: r∧s.size≤maxLen∧LOk ks r
theorem LOk_app:∀{a b:List FK} {xs ys:List Value},LOk a xs→LOk b ys→LOk (a++b) (xs++ys)
  | [], _, _, _, h, k => by
    have h:_= []:=h
    subst h;exact k
  | .i _ :: _,_,_,_,⟨z,r,e,hw,h⟩,k=>by subst e;exact ⟨z,_,rfl,hw,LOk_app h k⟩
  | .s :: _,_,_,_,⟨z,r,e,hw,h⟩,k=>by subst e;exact ⟨z,_,rfl,hw,LOk_app h k⟩
theorem LOk_rep {l:List FK} {L:Nat}:∀{m:Nat} {cs:List Value},cs.length=m*L→(∀i,i < m→LOk l ((cs.drop (i*L)).take L))→LOk (List.replicate m l).flatten cs
  | 0, cs, h, _ => by
    rw [Nat.zero_mul] at h
    exact List.length_eq_zero_iff.1 h
  | m + 1, cs, h, k => by
    rw [List.replicate_succ,List.flatten_cons,←List.take_append_drop L cs]
    refine LOk_app (by simpa using k 0 (Nat.succ_pos _)) (LOk_rep (L:=L) ?_ fun i hi=>?_)
    · rw [List.length_drop,h,Nat.add_mul,Nat.one_mul,Nat.add_sub_cancel]
    · have:=k (i+1) (by omega)
      rwa [show (i+1)*L=L+i*L by rw [Nat.add_mul,Nat.one_mul,Nat.add_comm],←List.drop_drop] at this
theorem mapM_same {α β:Type} {f g:α→Option β}:∀{l:List α},(∀x∈l,f x=g x)→l.mapM f=l.mapM g
  | [],_=>rfl
  | x :: l,h=>by rw [List.mapM_cons,List.mapM_cons,h x (List.mem_cons_self ..),mapM_same fun y hy=>h y (List.mem_cons_of_mem _ hy)]
section
variable {H:Type} {enc:TypeId×Value→H} {P:Program}
theorem fkFs_ok {g:TypeId→Option (List FK)} {T:TypeId→List Value→Option (DataW H×List MemPlace)} (ih:∀t ks,g t=some ks→∀cs x,T t cs=some x→LOk ks cs∧x.2= []) {cs:List Value} :
    ∀(fs:List Field) (o:Nat) (ks:List FK),fkFs g P fs o=some ks→∀xs,(fs.mapM fun f=>T f.type ((cs.drop f.offset).take (P.cellsOf f.type)))=some xs→LOk ks ((cs.drop o).take ks.length)∧xs.flatMap (·.2)= []
  | [], o, ks, h, xs, hx => by
    obtain rfl:=Option.some.inj h
    obtain rfl:=Option.some.inj hx
    exact ⟨by simp [LOk],rfl⟩
  | f :: fs, o, ks, h, xs, hx => by
    unfold fkFs at h
    split at h
    rotate_left
    · cases h
    rename_i ho
    obtain ⟨l,hl,h⟩:=Option.bind_eq_some_iff.1 h
    split at h
    rotate_left
    · cases h
    rename_i hc
    obtain ⟨r,hr,rfl⟩:=Option.map_eq_some_iff.1 h
    rw [List.mapM_cons] at hx
    obtain ⟨y,hy,hx⟩:=Option.bind_eq_some_iff.1 hx
    obtain ⟨ys,hys,hx⟩:=Option.bind_eq_some_iff.1 hx
    obtain rfl:=Option.some.inj hx
    obtain ⟨h1,h2⟩:=ih _ _ hl _ _ hy
    obtain ⟨h3,h4⟩:=fkFs_ok ih fs _ r hr ys hys
    refine ⟨?_,by rw [List.flatMap_cons,h2,h4];rfl⟩
    rw [ho,hc] at h1
    have e:(cs.drop o).take (l++r).length=(cs.drop o).take l.length++(cs.drop (o+l.length)).take r.length:=by
      rw [List.length_append,List.take_add,List.drop_drop]
    rw [e]
    exact LOk_app h1 h3
theorem flat_trod {w:World} {base:Nat} {sp:Nat→Bool} {held:Bool}:∀(n:Nat) (t:TypeId) (ks:List FK),fkOf P n t=some ks→∀fuel cs x,DataW.trod enc P w base sp held fuel t cs=some x→LOk ks cs∧x.2= []
  | 0,_,_,h,_,_,_,_=>by cases h
  | n + 1, t, ks, h, fuel, cs, x, hx => by
    unfold fkOf at h
    cases hu:P.underlying t with
    | none=>rw [hu] at h;cases h
    | some U =>
      rw [hu] at h
      cases fuel with
      | zero=>cases hx
      | succ fuel=>
      cases U with
      | int k =>
        obtain rfl:=Option.some.inj h
        unfold DataW.trod at hx
        rw [hu] at hx
        split at hx <;> simp_all
        obtain ⟨hk,rfl⟩:=hx
        exact ⟨⟨_,_,rfl,hk.2,rfl⟩,rfl⟩
      | string =>
        obtain rfl:=Option.some.inj h
        unfold DataW.trod at hx
        rw [hu] at hx
        split at hx <;> simp_all
        obtain ⟨hk,rfl⟩:=hx
        exact ⟨⟨_,_,rfl,hk,rfl⟩,rfl⟩
      | array m e =>
        obtain ⟨l,hl,h⟩:=Option.bind_eq_some_iff.1 h
        split at h
        rotate_left
        · cases h
        rename_i hc
        obtain rfl:=Option.some.inj h
        obtain ⟨xs,q,hq,rfl,hlen,hxs,hget⟩:=DataW.trod_array hu hx
        have hi:∀i,i < m→∃y,xs[i]?=some y∧LOk l ((cs.drop (i*l.length)).take l.length)∧y.2= []:=fun i hi=>by
          have h1:=hget i hi
          have h2:xs[i]?=some xs[i]:=List.getElem?_eq_getElem (by omega)
          rw [h2,hc.1] at h1
          exact ⟨_,h2,flat_trod n e l hl _ _ _ h1⟩
        refine ⟨LOk_rep (L:=l.length) (hlen.trans hc.2) fun i h=>(hi i h).elim fun _ h=>h.2.1,?_⟩
        refine List.flatMap_eq_nil_iff.2 fun y hy=>?_
        obtain ⟨i,hi',rfl⟩:=List.getElem_of_mem hy
        obtain ⟨y,h1,_,h2⟩:=hi i (by omega)
        rw [List.getElem?_eq_getElem hi'] at h1
        rw [Option.some.inj h1];exact h2
      | struct fs =>
        obtain ⟨l,hl,h⟩:=Option.bind_eq_some_iff.1 h
        split at h
        rotate_left
        · cases h
        rename_i hc
        obtain rfl:=Option.some.inj h
        unfold DataW.trod at hx
        rw [hu] at hx
        simp only at hx
        split at hx
        rotate_left
        · cases hx
        rename_i hlen
        obtain ⟨xs,hxs,rfl⟩:=Option.map_eq_some_iff.1 hx
        have:=fkFs_ok (fun t ks h cs x=>flat_trod n t ks h fuel cs x) fs.toList 0 _ hl xs hxs
        rw [List.drop_zero,List.take_of_length_le (by omega)] at this
        exact this
      | _=>cases h
theorem fkFs_mem {g:TypeId→Option (List FK)}:∀(fs:List Field) (o:Nat) (ks:List FK),fkFs g P fs o=some ks→∀f∈fs,∃l,g f.type=some l
  | f :: fs, o, ks, h, f', hf => by
    unfold fkFs at h
    split at h
    rotate_left
    · cases h
    obtain ⟨l,hl,h⟩:=Option.bind_eq_some_iff.1 h
    split at h
    rotate_left
    · cases h
    obtain ⟨r,hr,rfl⟩:=Option.map_eq_some_iff.1 h
    rcases List.mem_cons.1 hf with rfl|hf
    · exact ⟨l,hl⟩
    · exact fkFs_mem fs _ r hr f' hf
theorem flat_same {w w':World} {base base':Nat} {sp sp':Nat→Bool} {held held':Bool}:∀(n:Nat) (t:TypeId) (ks:List FK),fkOf P n t=some ks→∀fuel cs,DataW.trod enc P w base sp held fuel t cs=DataW.trod enc P w' base' sp' held' fuel t cs
  | 0,_,_,h,_,_=>by cases h
  | n+1,t,ks,h,0,cs=>by unfold DataW.trod;rfl
  | n + 1, t, ks, h, fuel + 1, cs => by
    unfold fkOf at h
    cases hu:P.underlying t with
    | none=>rw [hu] at h;cases h
    | some U =>
      rw [hu] at h
      cases U with
      | int k=>rw [DataW.trod.eq_def,DataW.trod.eq_def];simp only [hu];split <;> simp_all
      | string=>rw [DataW.trod.eq_def,DataW.trod.eq_def];simp only [hu];split <;> simp_all
      | array m e =>
        obtain ⟨l,hl,h⟩:=Option.bind_eq_some_iff.1 h
        rw [DataW.trod.eq_def,DataW.trod.eq_def]
        simp only [hu]
        rw [mapM_same fun i _=>flat_same n e l hl fuel _]
      | struct fs =>
        obtain ⟨l,hl,h⟩:=Option.bind_eq_some_iff.1 h
        rw [DataW.trod.eq_def,DataW.trod.eq_def]
        simp only [hu]
        rw [mapM_same fun f hf=>(fkFs_mem _ _ _ hl f hf).elim fun l hl=>flat_same n f.type l hl fuel _]
      | _=>cases h
theorem flat_open (n:Nat) {t:TypeId} {ks:List FK} {w W:World} {r:Reach} {b0 base:Nat} {sp:Nat→Bool} {held:Bool} {v:Value} {d:DataW H} {ps:List MemPlace} (hk:fkOf P n t=some ks)
    (ha:(∃m e,P.underlying t=some (.array m e))∨∃fs,P.underlying t=some (.struct fs)) (hval:Value.okWide P W r b0 t v) (hd:DataW.Trod enc P w base sp held t v d ps) :
    ∃cs:List Value,v= .agg cs.toArray∧ps= []∧(∀(w':World) (base':Nat) (sp':Nat→Bool) (held':Bool),DataW.Trod enc P w' base' sp' held' t (.agg cs.toArray) d [])∧LOk ks cs:=by
  obtain ⟨cs,rfl⟩:∃cs,v= .agg cs:=by
    unfold Value.okWide at hval
    rcases ha with ⟨m,e,hu⟩|⟨fs,hu⟩
    · rw [hu] at hval;exact hval.elim fun cs h=>⟨cs,h.1⟩
    · rw [hu] at hval;exact hval.elim fun cs h=>⟨cs,h.1⟩
  obtain ⟨fuel,hf⟩:=hd
  obtain ⟨h1,h2⟩:=flat_trod n t ks hk fuel _ _ hf
  have h2:ps= []:=h2
  subst h2
  exact ⟨cs.toList,rfl,rfl,fun w' base' sp' held'=>⟨fuel,(flat_same n t ks hk fuel _).symm.trans hf⟩,h1⟩
end
theorem lr_cons {E:Env} {w:World} {x:Value} {ls:List Leaf} {r:List Value} (hx:x.oneCell'=true) (h:LeavesR E w ls r):LeavesR E w (.v x :: ls) (x :: r):=⟨[x],r,rfl,⟨rfl,hx⟩,h⟩
theorem lr_nil {E:Env} {w:World}:LeavesR E w [] []:=rfl
end Go.Ax
end
