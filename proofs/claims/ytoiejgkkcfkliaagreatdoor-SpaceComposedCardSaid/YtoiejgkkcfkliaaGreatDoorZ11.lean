/- Lemmas on the program and its library: part Z11. -/
import Derived.ArgAppend
import Derived.Test.YtoiejgkkcfkliaaGreatDoorZ05
set_option linter.unusedVariables false
set_option linter.unusedSimpArgs false
section
namespace Go.Ax
open Go.RowKit (Below)
def a2y (b:Nat):i7→i7
  | .own b' sz i m c => match Nat.beq b' b with
    | true=>.u
    | false=>.own b' sz i m c
  | .gr b' sz m c => match Nat.beq b' b with
    | true=>.u
    | false=>.gr b' sz m c
  | .ptr b' sz i o => match Nat.beq b' b with
    | true=>.u
    | false=>.ptr b' sz i o
  | .fn f xs ys => match xs, ys with
    | [],[]=>.fn f [] []
    | _,_=>.u
  | l=>l
mutual
def a79 (b:Nat):AV→AV
  | .one l=>.one (a2y b l)
  | .agg ls=>.agg (ls.map (a2y b))
  | .tup xs=>.tup (a9h b xs)
  | .u=>.u
def a9h (b:Nat):List AV→List AV
  | []=> []
  | x :: xs=>a79 b x :: a9h b xs
end
def a1v (b:Nat) (bx:Box):Box:={ bx with g:=fun i=>(bx.g i).map (a2y b) }
def u6.hide (E:u6) (b:Nat):u6:={ ρ:=fun x=>if x=b then none else E.ρ x,M:=fun j=>E.M j∨E.ρ b=some j }
section
variable {E:u6} {w:World} {b:Nat}
theorem b44 {k:Nat}:(E.hide b).ok w k↔E.ok w k:=by
  constructor
  · rintro ⟨h1,h2,h3⟩
    refine ⟨h1,fun h=>h2 (.inl h),fun x hx=>?_⟩
    by_cases e:x=b
    · subst e;exact h2 (.inr hx)
    · exact h3 x (by simp [u6.hide,e,hx])
  · rintro ⟨h1,h2,h3⟩
    refine ⟨h1,fun h=>h.elim h2 (h3 b),fun x hx=>?_⟩
    simp only [u6.hide] at hx
    split at hx
    · cases hx
    · exact h3 x hx
theorem a3k:a1h 0 E (E.hide b) w:=⟨fun _ _ h=>absurd h (Nat.not_lt_zero _),fun _ h=>b44.2 h⟩
theorem a4e {x y:Nat} (h:Nat.beq x y=false):x≠y:=fun e=>by rw [e,Nat.beq_refl] at h;cases h
theorem d0p {l:i7} {cs:List Value} (h:l.R E w cs):(a2y b l).R (E.hide b) w cs:=by
  cases l with
  | ptr b' sz i o =>
    obtain ⟨j,h1,rfl⟩:=h
    simp only [a2y]
    split
    · exact ⟨_,rfl,rfl⟩
    · rename_i e;exact ⟨j,by simp [u6.hide,a4e e,h1],rfl⟩
  | own b' sz i m c =>
    obtain ⟨j,h1,rfl⟩:=h
    simp only [a2y]
    split
    · exact ⟨_,rfl,rfl⟩
    · rename_i e;exact ⟨j,by simp [u6.hide,a4e e,h1],rfl⟩
  | gr b' sz m c =>
    simp only [a2y]
    split
    · rcases h with ⟨rfl,rfl,rfl⟩|⟨j,h1,rfl⟩<;> exact ⟨_,rfl,rfl⟩
    · rename_i e
      rcases h with h|⟨j,h1,rfl⟩
      · exact .inl h
      · exact .inr ⟨j,by simp [u6.hide,a4e e,h1],rfl⟩
  | fn f a c =>
    simp only [a2y]
    split
    · obtain ⟨xs,ys,rfl,h1,h2⟩:=h;exact ⟨xs,ys,rfl,h1,h2⟩
    · obtain ⟨xs,ys,rfl,_⟩:=h;exact ⟨_,rfl,rfl⟩
  | v x=>exact (a3k (b:=b)).leaf (l:=.v x) trivial h
  | u=>exact (a3k (b:=b)).leaf (l:=.u) trivial h
  | pp x=>exact (a3k (b:=b)).leaf (l:=.pp x) trivial h
  | int z=>exact (a3k (b:=b)).leaf (l:=.int z) trivial h
  | frac q=>exact (a3k (b:=b)).leaf (l:=.frac q) trivial h
  | rint z=>exact (a3k (b:=b)).leaf (l:=.rint z) trivial h
  | ints k l=>exact (a3k (b:=b)).leaf (l:=.ints k l) trivial h
  | nn k l=>exact (a3k (b:=b)).leaf (l:=.nn k l) trivial h
  | row sz n g=>exact (a3k (b:=b)).leaf (l:=.row sz n g) trivial h
theorem b9t (l:i7):(a2y b l).size=l.size:=by
  cases l <;> simp only [a2y] <;> (repeat' split) <;> rfl
theorem b46:∀{ls:List i7} {cs:List Value},j7 E w ls cs→j7 (E.hide b) w (ls.map (a2y b)) cs
  | [],_,h=>h
  | _ :: _,_,h=>by obtain ⟨xs,ys,a,c,d⟩:=h;exact ⟨xs,ys,a,d0p c,b46 d⟩
theorem c0d:∀(ls:List i7),s8 (ls.map (a2y b))=s8 ls
  | []=>rfl
  | l :: ls=>by simp [s8,b9t,c0d ls]
mutual
theorem c8n:∀{x:AV} {v:Value},RV E w x v→RV (E.hide b) w (a79 b x) v
  | .one _,_,h=>⟨by rw [b9t];exact h.1,d0p h.2⟩
  | .agg _,_,h=>by obtain ⟨cs,a,c⟩:=h;exact ⟨cs,a,b46 c⟩
  | .tup _,_,h=>by obtain ⟨vs,a,c⟩:=h;exact ⟨vs,a,d0q c⟩
  | .u,_,_=>trivial
theorem d0q:∀{xs:List AV} {vs:List Value},RVs E w xs vs→RVs (E.hide b) w (a9h b xs) vs
  | [],_,h=>h
  | _ :: _,_,h=>by obtain ⟨v,r,a,c,d⟩:=h;exact ⟨v,r,a,c8n c,d0q d⟩
end
end
def St.appG (st:St) (dst:Option Tmp) (b sz nm c':Nat) (gg:Nat→List i7):St:=
  { t:=match dst with
      | some d=>upd (fun x=>a79 b (st.t x)) d (.one (.gr b sz nm c'))
      | none=>fun x=>a79 b (st.t x)
    h:=a57 (fun x=>(st.h x).map (a1v b)) b ⟨sz,c',gg,true⟩
    nb:=match Nat.ble st.nb b with
      | true=>b+1
      | false=>st.nb }
abbrev St.app (st:St) (dst:Option Tmp) (b sz n m c':Nat) (g g':Nat→List i7):St:=
  st.appG dst b sz (n+m) c' fun i=>if i < n then g i else if i < n+m then g' (i - n) else List.replicate sz .u
theorem d6u {E:u6} {w:World} {sz m:Nat} {g':Nat→List i7} {v:Value} (h:RV E w (.one (.row sz m g')) v) (hm:0 < m) :
    ∃(b' o' c':Nat) (news:List Value),v= .slice (some ⟨b',o',none⟩) m c'∧news.length=m*sz∧(∀j u,news[j]?=some u→w.cell? ⟨b',o'+j,none⟩=some u)∧E.ok w b'∧
      ∀i,i < m→∃es,s8 (g' i)=sz∧j7 E.shut w (g' i) es∧es.length=sz∧∀j v,es[j]?=some v→news[i*sz+j]?=some v:=by
  obtain ⟨_,h⟩:=h
  rcases h with ⟨rfl,_⟩|⟨b',o',c',h1,h2,h3,h4⟩
  · omega
  simp only [List.cons.injEq,and_true] at h1
  have key:∀k,k≤m→∃news:List Value,news.length=k*sz∧(∀j u,news[j]?=some u→w.cell? ⟨b',o'+j,none⟩=some u)∧
      ∀i,i < k→∃es,s8 (g' i)=sz∧j7 E.shut w (g' i) es∧es.length=sz∧∀j v,es[j]?=some v→news[i*sz+j]?=some v:=by
    intro k
    induction k with
    | zero=>exact fun _=>⟨[],by simp,(fun j u h=>by simp at h),fun i hi=>by omega⟩
    | succ k ih =>
      intro hk
      obtain ⟨news,q1,q2,q3⟩:=ih (by omega)
      obtain ⟨es,q4,q5,q6⟩:=h4 k (by omega)
      have hl:es.length=sz:=(w7 q5).1.trans q4
      refine ⟨news++es,by rw [List.length_append,q1,hl,Nat.add_mul];omega,fun j u hu=>?_,fun i hi=>?_⟩
      · rw [List.getElem?_append] at hu
        split at hu
        · exact q2 j u hu
        · rename_i hj
          have:=q6 _ _ hu
          rw [←this];congr 2;rw [q1] at hj ⊢;omega
      · by_cases e:i < k
        · obtain ⟨es',q7,q8,q9,q10⟩:=q3 i e
          refine ⟨es',q7,q8,q9,fun j v hv=>?_⟩
          have:=q10 j v hv
          rw [List.getElem?_append_left (List.getElem?_eq_some_iff.1 this).1];exact this
        · obtain rfl:i=k:=by omega
          refine ⟨es,q4,q5,hl,fun j v hv=>?_⟩
          rw [List.getElem?_append_right (by omega),q1]
          rw [←hv];congr 1;omega
  obtain ⟨news,q1,q2,q3⟩:=key m (Nat.le_refl _)
  exact ⟨b',o',c',news,h1,q1,q2,h2,q3⟩
variable {c:Ctx} {st:St}
theorem b3g {E:u6} {w:World}:∀(sz:Nat) (cs:List Value),cs.length=sz→(∀v∈cs,v.oneCell'=true)→j7 E w (List.replicate sz .u) cs
  | 0,[],_,_=>rfl
  | n+1,[],h,_=>by cases h
  | 0,_ :: _,h,_=>by cases h
  | n+1,v :: cs,h,h1=>⟨[v],cs,rfl,⟨v,rfl,h1 v (by simp)⟩,b3g n cs (by simpa using h) fun v hv=>h1 v (by simp [hv])⟩
theorem c0f:∀sz:Nat,s8 (List.replicate sz i7.u)=sz
  | 0=>rfl
  | n+1=>by simp only [List.replicate_succ,s8,c0f n,i7.size];omega
theorem d3y {c:Ctx} {st:St} {E:u6} {a:Act} {w w':World} (s:SR c st E a w) {dst:Option Tmp} {b sz n m c' k:Nat} {g g':Nat→List i7} {v':Value} {cur:Array Value} {T:TypeId} (hb:c.nb0≤b)
    (hw:(w.heap.size≤k∧k < w'.heap.size∧Below w.heap.size w w')∨(E.ρ b=some k∧b0w k w w')) (hv:v'= .slice (some ⟨k,0,none⟩) (n+m) c') (hk:w'.heap[k]?=some (.cells cur T (0,0))) (hcs:c'*sz≤cur.size) (_hnm:n+m≤c')
    (hel:∀i,i < c'→∃es,s8 (if i < n then g i else if i < n+m then g' (i - n) else List.replicate sz .u)=sz∧j7 E.shut w (if i < n then g i else if i < n+m then g' (i - n) else List.replicate sz .u) es∧∀j v,es[j]?=some v→cur[i*sz+j]?=some v)
    (hc:a0d c) (hd:∀d,dst=some d→d < c.N):SR c (st.app dst b sz n m c' g g') (E.add b k) (a.put dst v') w':=by
  have hsize:w.heap.size≤w'.heap.size:=hw.elim (fun h=>h.2.2.size) (fun h=>h.2.size)
  have hkw:k < w'.heap.size:=(Array.getElem?_eq_some_iff.1 hk).1
  have hblock:∀j,j < w.heap.size→j≠k→w'.heap[j]?=w.heap[j]?:=fun j hj hjk=>by
    rcases hw with h|h
    · exact h.2.2.block j hj
    · exact h.2.block j hj hjk
  have hfresh:∀x,x≠b→E.ρ x≠some k:=fun x hx h=>by
    rcases hw with hw|hw
    · have:=s.env.r _ _ h;omega
    · exact hx (s.env.inj _ _ _ h hw.1)
  have hadd:∀x,x≠b→(E.add b k).ρ x=E.ρ x:=fun x hx=>by simp [u6.add,hx]
  have haddb:(E.add b k).ρ b=some k:=by simp [u6.add]
  have hMk:¬E.M k:=fun hM=>by
    have hM0:c.E0.M k:=by have:=s.m;rw [←this];exact hM
    have:=hc.m k hM0
    rcases hw with hw|hw
    · have:=s.below.size;omega
    · rcases s.own b k (Nat.le_trans hc.ns hb) hw.1 with h|h
      · omega
      · exact h.2 hM0
  have hok:∀j,E.ok w j→(E.add b k).ok w' j∧w'.heap[j]?=w.heap[j]?:=fun j hj=>by
    have hjk:j≠k:=fun e=>by
      subst e
      rcases hw with hw|hw
      · have:=hj.1;omega
      · exact hj.2.2 b hw.1
    refine ⟨⟨Nat.lt_of_lt_of_le hj.1 hsize,hj.2.1,fun x hx=>?_⟩,hblock j hj.1 hjk⟩
    by_cases e:x=b
    · subst e;rw [haddb] at hx;cases hx;exact hjk rfl
    · rw [hadd x e] at hx;exact hj.2.2 x hx
  have hkeep:a0s (E.hide b) w (E.add b k) w':=by
    refine ⟨fun x j hx=>?_,fun j hj=>(hok j (b44.1 hj)).1,fun j hj=>(hok j (b44.1 hj)).2⟩
    simp only [u6.hide] at hx
    split at hx
    · cases hx
    · rename_i e;rw [hadd x e];exact hx
  have hshut:a0s E.shut w (E.add b k).shut w':=⟨(fun _ _ h=>(by cases h)),fun j hj=>a1z.2 (hok j (a1z.1 hj)).1,fun j hj=>(hok j (a1z.1 hj)).2⟩
  refine ⟨?_,?_,fun x=>?_,fun x bx hx=>?_,⟨fun j hj=>Nat.lt_of_lt_of_le (s.env.m j hj) hsize,fun x j hx=>?_,fun x y j hx hy=>?_⟩,?_,fun x j hx0 hx=>?_,fun x hx=>?_,s.m,fun x hx=>?_⟩
  · cases dst with
    | none=>exact s.size
    | some d=>simpa [Act.put] using s.size
  · cases dst with
    | none=>exact s.defers
    | some d=>exact s.defers
  · have hold:RV (E.add b k) w' (a79 b (st.t x)) (a.tmps.getD x undef):=hkeep.rv (c8n (s.slots x))
    cases dst with
    | none=>exact hold
    | some d =>
      show RV _ _ (upd (fun x=>a79 b (st.t x)) d (.one (.gr b sz (n+m) c')) x) _
      rw [c0v]
      split
      · rename_i e;subst e
        have hlt:x < a.tmps.size:=by rw [s.size];exact hd x rfl
        have:(a.put (some x) v').tmps.getD x undef=v':=by simp [Act.put,Array.getD_eq_getD_getElem?,hlt]
        rw [this,hv]
        exact ⟨rfl,.inr ⟨k,haddb,rfl⟩⟩
      · rename_i e
        have:(a.put (some d) v').tmps.getD x undef=a.tmps.getD x undef:=by simp [Act.put,Array.getD_eq_getD_getElem?,Array.getElem?_setIfInBounds_ne (fun h=>e h.symm)]
        rw [this];exact hold
  · have hx:a57 (fun x=>(st.h x).map (a1v b)) b ⟨sz,c',fun i=>if i < n then g i else if i < n+m then g' (i - n) else List.replicate sz .u,true⟩ x=some bx:=hx
    rw [d0o] at hx
    by_cases e:x=b
    · rw [if_pos e] at hx
      obtain rfl:=Option.some.inj hx
      rw [e]
      refine .inr ⟨k,cur,T,haddb,hk,hcs,fun i hi=>?_⟩
      obtain ⟨es,q1,q2,q3⟩:=hel i hi
      exact ⟨es,q1,a73 (hshut.leaves q2),q3⟩
    · rw [if_neg e] at hx
      simp only [Option.map_eq_some_iff] at hx
      obtain ⟨bx1,hx2,rfl⟩:=hx
      rcases s.boxes x bx1 hx2 with g0|⟨kx,cx,Tx,g1,g2,g3,g4⟩
      · exact .inl g0
      have hkx:kx≠k:=fun e'=>hfresh x e (e' ▸ g1)
      refine .inr ⟨kx,cx,Tx,(hadd x e).trans g1,(hblock kx (s.env.r _ _ g1) hkx).trans g2,g3,fun i hi=>?_⟩
      obtain ⟨es,g5,g6,g7⟩:=g4 i hi
      exact ⟨es,by simp only [a1v,c0d];exact g5,hkeep.leaves (b46 g6),g7⟩
  · by_cases e:x=b
    · subst e;rw [haddb] at hx;cases hx;exact hkw
    · rw [hadd x e] at hx;exact Nat.lt_of_lt_of_le (s.env.r _ _ hx) hsize
  · by_cases e:x=b <;> by_cases e':y=b
    · rw [e,e']
    · subst e;rw [haddb] at hx;cases hx;rw [hadd y e'] at hy;exact absurd hy (hfresh y e')
    · subst e';rw [haddb] at hy;cases hy;rw [hadd x e] at hx;exact absurd hx (hfresh x e)
    · rw [hadd x e] at hx;rw [hadd y e'] at hy;exact s.env.inj _ _ _ hx hy
  · rcases hw with hw|hw
    · exact s.below.below hw.2.2 s.below.size
    · have hk':=s.own _ _ (Nat.le_trans hc.ns hb) hw.1
      exact ⟨hw.2.os.trans s.below.os,hw.2.tape.trans s.below.tape,hw.2.output.trans s.below.output,Nat.le_trans s.below.size hw.2.size,
        fun j hj hW=>(hw.2.block j (by have:=s.below.size;omega) (fun e=>by
          subst e
          rcases hk' with hk'|hk'
          · omega
          · exact hW hk'.1)).trans (s.below.block j hj hW)⟩
  · by_cases e:x=b
    · subst e;rw [haddb] at hx;cases hx
      rcases hw with hw|hw
      · exact .inl (Nat.le_trans s.below.size hw.1)
      · exact s.own x k hx0 hw.1
    · rw [hadd x e] at hx;exact s.own x j hx0 hx
  · have:x≠b:=by omega
    rw [hadd x this];exact s.low x hx
  · have hx:(match Nat.ble st.nb b with|true=>b+1|false=>st.nb)≤x:=hx
    have hxb:x≠b∧st.nb≤x:=by
      cases e:Nat.ble st.nb b with
      | true=>rw [e] at hx;have hx:b+1≤x:=hx;have:=Nat.le_of_ble_eq_true e;exact ⟨by omega,by omega⟩
      | false =>
        rw [e] at hx
        have hx:st.nb≤x:=hx
        have:¬st.nb≤b:=fun h=>by rw [Nat.ble_eq_true_of_le h] at e;cases e
        exact ⟨by omega,hx⟩
    rw [hadd x hxb.1];exact s.free x hxb.2
theorem b9u {z:Array Value} {sz:Nat} (hz:z.size=sz) (m:Nat):(Builtin.zeroCells z m).size=m*sz:=by rw [size_zeroCells,hz]
theorem c1k {z:Array Value} (h:∀v∈z,v.oneCell'=true) (m:Nat):∀v∈Builtin.zeroCells z m,v.oneCell'=true:=by
  intro v hv
  simp only [Builtin.zeroCells] at hv
  simp only [Array.mem_map,Array.mem_range] at hv
  obtain ⟨p,h1,rfl⟩:=hv
  have hp:0 < z.size:=by
    rcases Nat.eq_zero_or_pos z.size with h0|h0
    · rw [h0] at h1;omega
    · exact h0
  rw [getElem!_pos z _ (Nat.mod_lt _ hp)]
  exact h _ (Array.getElem_mem _)
theorem d3z (hc:a0d c) {E:u6} {a:Act} {w:World} (s:SR c st E a w) (dst:Option Tmp) (hd:∀d,dst=some d→d < c.N) {T ty:TypeId} {ti te:TyI} (ht:tyI c.P T=some ti) {e sz:Nat} (hk:ti.kind= .slice e sz) (hte:tyI c.P e=some te) {zs:List Value} (hz:te.zero=some zs)
    (hz1:zs.all (·.oneCell')=true) (hzl:zs.length=sz) (hsz:0 < sz) (b n cc m:Nat) (g g':Nat→List i7) (hb:c.nb0≤b) {vx vy:Value} (hx:RV E w (.one (.gr b sz n cc)) vx) (hn:n≤cc) (hbox:(n=0∧cc=0)∨∃ro,st.h b=some ⟨sz,cc,g,ro⟩)
    (hg:∀i,i < n→clL 0 (g i)) (hy:RV E w (.one (.row sz m g')) vy) (hm:0 < m) (h63:n+m≤maxLen) (hbytes:(n+m)*te.bytes≤140737488355328) :
    ∃c' v' w' E',n+m≤c'∧(Builtin.append_ #[T,T] ty #[vx,vy]).run c.P w= .ok v' w'∧SR c (st.app dst b sz n m c' g g') E' (a.put dst v') w':=by
  obtain ⟨hT,hcell⟩:=a1p ht hk
  obtain ⟨ie,de,hie,hde,his,hib,_,hiz⟩:=a4x hte
  obtain ⟨ie',hie',hse⟩:=a92 (P:=c.P) (t:=e) (by omega)
  rw [hie] at hie';cases hie'
  have hsize:ie.size=sz:=by rw [hse,hcell]
  rw [hz] at hiz
  obtain ⟨z,hzv,hzc⟩:∃z,ie.zero=some z∧z.cells.toList=zs:=by
    cases h:ie.zero with
    | none=>rw [h] at hiz;cases hiz
    | some z=>rw [h] at hiz;simp at hiz;exact ⟨z,rfl,hiz.symm⟩
  have hzs:z.cells.size=sz:=by rw [←hzl,←hzc];simp
  have hz1':∀v∈z.cells,v.oneCell'=true:=fun v hv=>by
    simp only [List.all_eq_true] at hz1
    exact hz1 v (by rw [←hzc];simpa using hv)
  obtain ⟨b',o',c1,news,rfl,hl,hnews,hok',hel'⟩:=d6u hy hm
  have h1n:∀u∈news,u.oneCell'=true:=fun u hu=>by
    obtain ⟨j,hj,rfl⟩:=List.getElem_of_mem hu
    have hjm:j / sz < m:=by rw [Nat.div_lt_iff_lt_mul hsz];omega
    obtain ⟨es,_,q2,q3,q4⟩:=hel' (j / sz) hjm
    have hr:j%sz < es.length:=by rw [q3];exact Nat.mod_lt _ hsz
    have:=q4 (j%sz) es[j%sz] (List.getElem?_eq_getElem hr)
    rw [show j / sz*sz+j%sz=j by rw [Nat.mul_comm];exact Nat.div_add_mod j sz,List.getElem?_eq_getElem hj] at this
    rw [Option.some.inj this]
    exact (w7 q2).2 _ (List.getElem_mem hr)
  have hnews':∀j u,news[j]?=some u→w.cell? ((⟨b',o',none⟩:Addr).add j)=some u:=fun j u hu=>by rw [Addr.add_mid];exact hnews j u hu
  subst hsize
  have hel2:∀i,n≤i→i < n+m→∃es,s8 (g' (i - n))=ie.size∧j7 E.shut w (g' (i - n)) es∧∀j v,es[j]?=some v→news[(i - n)*ie.size+j]?=some v:=fun i h1 h2=>by
    obtain ⟨es,q1,q2,_,q3⟩:=hel' (i - n) (by omega)
    exact ⟨es,q1,q2,q3⟩
  have hmul:∀i j m',j < ie.size→i < m'→i*ie.size+j < m'*ie.size:=fun i j m' h1 h2=>by
    have:(i+1)*ie.size≤m'*ie.size:=Nat.mul_le_mul_right _ h2
    rw [Nat.add_mul] at this;omega
  -- a new block
  have grown:∀(old:Nat) (olds:List Value),old < n+m→olds.length=n*ie.size→(∀i,i < n→∃es,s8 (g i)=ie.size∧j7 E.shut w (g i) es∧∀j v,es[j]?=some v→olds[i*ie.size+j]?=some v)→
      SR c (st.app dst b ie.size n m (grownCap w (n+m) old e) g g') (E.add b w.heap.size) (a.put dst (.slice (some ⟨w.heap.size,0,none⟩) (n+m) (grownCap w (n+m) old e)))
        (w.drew.alloc (.cells (olds.toArray++news.toArray++Builtin.zeroCells z.cells (grownCap w (n+m) old e - (n+m))) e)):=by
    intro old olds ho hol hels
    have hge:=grownCap_ge w (n+m) old e
    refine d3y s hb (.inl ⟨Nat.le_refl _,by simp,⟨rfl,rfl,rfl,by simp,fun k hk=>heap_alloc_old w.drew _ hk⟩⟩) rfl (heap_alloc_new w.drew _) ?_ hge (fun i hi=>?_) hc hd
    · refine Nat.le_of_eq (Eq.symm ?_)
      simp only [Array.size_append,List.size_toArray,size_zeroCells,hzs,hol,hl,←Nat.add_mul]
      congr 1;omega
    · have hget:∀p,(olds.toArray++news.toArray++Builtin.zeroCells z.cells (grownCap w (n+m) old e - (n+m)))[p]?=if p < n*ie.size then olds[p]? else if p < (n+m)*ie.size then news[p - n*ie.size]? else (Builtin.zeroCells z.cells (grownCap w (n+m) old e - (n+m)))[p - (n+m)*ie.size]?:=by
        intro p
        have hs2:(olds.toArray++news.toArray).size=(n+m)*ie.size:=by simp [hol,hl,Nat.add_mul]
        rw [Array.getElem?_append,hs2,Array.getElem?_append]
        simp only [List.size_toArray,hol,List.getElem?_toArray]
        by_cases h1:p < n*ie.size
        · have:p < (n+m)*ie.size:=by rw [Nat.add_mul];omega
          simp [h1,this]
        · simp [h1]
      by_cases h1:i < n
      · obtain ⟨es,q1,q2,q3⟩:=hels i h1
        rw [if_pos h1]
        refine ⟨es,q1,q2,fun j v hv=>?_⟩
        have hj:j < ie.size:=by have:=(List.getElem?_eq_some_iff.1 hv).1;have:=(w7 q2).1;omega
        rw [hget,if_pos (hmul i j n hj h1)]
        exact q3 j v hv
      · rw [if_neg h1]
        by_cases h2:i < n+m
        · obtain ⟨es,q1,q2,q3⟩:=hel2 i (by omega) h2
          rw [if_pos h2]
          refine ⟨es,q1,q2,fun j v hv=>?_⟩
          have hj:j < ie.size:=by have:=(List.getElem?_eq_some_iff.1 hv).1;have:=(w7 q2).1;omega
          have hge':n*ie.size≤i*ie.size:=Nat.mul_le_mul_right _ (by omega)
          rw [hget,if_neg (by omega),if_pos (hmul i j (n+m) hj h2)]
          have:=q3 j v hv
          rw [←this];congr 1;rw [Nat.sub_mul];omega
        · rw [if_neg h2]
          have hzc1:=c1k hz1' (grownCap w (n+m) old e - (n+m))
          have hge':(n+m)*ie.size≤i*ie.size:=Nat.mul_le_mul_right _ (by omega)
          have hszc:=b9u hzs (grownCap w (n+m) old e - (n+m))
          have hlen:(((Builtin.zeroCells z.cells (grownCap w (n+m) old e - (n+m))).toList.drop (i*ie.size - (n+m)*ie.size)).take ie.size).length=ie.size:=by
            rw [List.length_take,List.length_drop,Array.length_toList,hszc]
            have h5:(i+1)*ie.size≤grownCap w (n+m) old e*ie.size:=Nat.mul_le_mul_right _ hi
            rw [Nat.add_mul] at h5
            rw [Nat.sub_mul];omega
          refine ⟨_,c0f _,b3g ie.size _ hlen (fun v hv=>hzc1 v (by have:=List.mem_of_mem_drop (List.mem_of_mem_take hv);simpa using this)),fun j v hv=>?_⟩
          have hj:j < ie.size:=by have:=(List.getElem?_eq_some_iff.1 hv).1;omega
          rw [List.getElem?_take,if_pos hj,List.getElem?_drop] at hv
          rw [hget,if_neg (by rw [Nat.add_mul] at hge';omega),if_neg (by omega),←hv,Array.getElem?_toList]
          congr 1;omega
  have hE:E.ρ b=none∨∃k,E.ρ b=some k:=by cases E.ρ b <;> simp
  obtain ⟨_,hx⟩:=hx
  have hsm:((n+m:Nat):Int)≤9223372036854775807:=by simp only [maxLen] at h63;omega
  rcases hx with ⟨rfl,rfl,hx⟩|⟨k,hρ,hx⟩
  · simp only [List.cons.injEq,and_true] at hx
    subst hx
    have hr:=run_append_nil (P:=c.P) w T ty e ie z hT hie hzv ⟨b',o',none⟩ m c1 news hl hnews' hm (by omega) (by rw [hib];rw [Nat.zero_add] at hbytes;omega)
    have:=grown 0 [] (by omega) (by simp) (fun i hi=>by omega)
    simp only [Nat.zero_add,Array.empty_append] at this
    exact ⟨grownCap w m 0 e,_,_,_,by have:=grownCap_ge w m 0 e;omega,hr,by simpa using this⟩
  · simp only [List.cons.injEq,and_true] at hx
    subst hx
    by_cases hroom:n+m≤cc
    · rcases hbox with ⟨rfl,rfl⟩|⟨ro,hbox⟩
      · omega
      rcases s.boxes b _ hbox with ⟨_,h0⟩|⟨k',cur,Tb,g1,g2,g3,g4⟩
      · have:cc=0:=h0
        omega
      rw [hρ] at g1;cases g1
      have g3:cc*ie.size≤cur.size:=g3
      have hfit:(n+m)*ie.size≤cur.size:=Nat.le_trans (Nat.mul_le_mul_right _ hroom) g3
      have hr:=run_append_room_cells (P:=c.P) w T ty e ie hT hie k 0 n cc ⟨b',o',none⟩ m c1 news hl hnews' h1n hroom
        (fun j hj => by rw [cell_of_row w k _ cur Tb (0, 0) g2]; have : 0 + n * ie.size + j < cur.size := by rw [Nat.add_mul] at hfit; omega
                        rw [Array.getElem?_eq_getElem this];rfl) (fun j hj=>frozen_of_row w k _ cur Tb g2)
      refine ⟨cc,_,_,E.add b k,hroom,hr,?_⟩
      have hw:=a7h news w k (0+n*ie.size)
      refine d3y s hb (.inr ⟨hρ,hw⟩) rfl (a39 _ g2 _) (by rw [a30];exact g3) hroom (fun i hi=>?_) hc hd
      have hget:∀p,p < cur.size→(a1f cur (0+n*ie.size) news)[p]?=if n*ie.size≤p∧p < (n+m)*ie.size then news[p - n*ie.size]? else cur[p]?:=by
        intro p hp
        rw [a2q,Nat.zero_add,hl]
        by_cases h:n*ie.size≤p∧p < (n+m)*ie.size
        · rw [if_pos h,if_pos ⟨h.1,by have:=h.2;rw [Nat.add_mul] at this;omega,hp⟩]
        · rw [if_neg h,if_neg (fun h'=>h ⟨h'.1,by rw [Nat.add_mul];omega⟩)]
      have hcell:∀j,j < ie.size→i*ie.size+j < cur.size:=fun j hj=>Nat.lt_of_lt_of_le (hmul i j cc hj hi) g3
      by_cases h1:i < n
      · rw [if_pos h1]
        obtain ⟨es,q1,q2,q3⟩:=g4 i hi
        have q1:s8 (g i)=ie.size:=q1
        have q2:j7 E w (g i) es:=q2
        refine ⟨es,q1,(a5a E w).leaves (hg i h1) q2,fun j v hv=>?_⟩
        have hj:j < ie.size:=by have:=(List.getElem?_eq_some_iff.1 hv).1;have:=(w7 q2).1;omega
        rw [hget _ (hcell j hj),if_neg (fun h=>by have:=hmul i j n hj h1;omega)]
        exact q3 j v hv
      · rw [if_neg h1]
        by_cases h2:i < n+m
        · obtain ⟨es,q1,q2,q3⟩:=hel2 i (by omega) h2
          rw [if_pos h2]
          refine ⟨es,q1,q2,fun j v hv=>?_⟩
          have hj:j < ie.size:=by have:=(List.getElem?_eq_some_iff.1 hv).1;have:=(w7 q2).1;omega
          have hge':n*ie.size≤i*ie.size:=Nat.mul_le_mul_right _ (by omega)
          rw [hget _ (hcell j hj),if_pos ⟨by omega,hmul i j (n+m) hj h2⟩]
          have:=q3 j v hv
          rw [←this];congr 1;rw [Nat.sub_mul];omega
        · rw [if_neg h2]
          obtain ⟨es,q1,q2,q3⟩:=g4 i hi
          have q1:s8 (g i)=ie.size:=q1
          have q2:j7 E w (g i) es:=q2
          have hes:=w7 q2
          have hge':(n+m)*ie.size≤i*ie.size:=Nat.mul_le_mul_right _ (by omega)
          refine ⟨es,c0f _,b3g ie.size _ (by omega) hes.2,fun j v hv=>?_⟩
          have hj:j < ie.size:=by have:=(List.getElem?_eq_some_iff.1 hv).1;omega
          rw [hget _ (hcell j hj),if_neg (fun h=>by omega)]
          exact q3 j v hv
    · have holds:∃olds:List Value,olds.length=n*ie.size∧(∀j u,olds[j]?=some u→w.cell? ((⟨k,0,none⟩:Addr).add j)=some u)∧∀i,i < n→∃es,s8 (g i)=ie.size∧j7 E.shut w (g i) es∧∀j v,es[j]?=some v→olds[i*ie.size+j]?=some v:=by
        by_cases h0:n=0
        · subst h0;exact ⟨[],by simp,(fun j u h=>by simp at h),fun i hi=>by omega⟩
        rcases hbox with ⟨rfl,_⟩|⟨ro,hbox⟩
        · omega
        rcases s.boxes b _ hbox with ⟨_,h0⟩|⟨k',cur,Tb,g1,g2,g3,g4⟩
        · have:cc=0:=h0
          omega
        rw [hρ] at g1;cases g1
        have g3:cc*ie.size≤cur.size:=g3
        have hle:n*ie.size≤cc*ie.size:=Nat.mul_le_mul_right _ hn
        refine ⟨cur.toList.take (n*ie.size),by rw [List.length_take,Array.length_toList];omega,fun j u hu=>?_,fun i hi=>?_⟩
        · rw [Addr.add_mid,cell_of_row w k _ cur Tb (0,0) g2,Nat.zero_add]
          rw [List.getElem?_take] at hu
          split at hu
          · simpa using hu
          · cases hu
        · obtain ⟨es,q1,q2,q3⟩:=g4 i (by show i < cc;omega)
          have q1:s8 (g i)=ie.size:=q1
          have q2:j7 E w (g i) es:=q2
          refine ⟨es,q1,(a5a E w).leaves (hg i hi) q2,fun j v hv=>?_⟩
          have hj:j < ie.size:=by have:=(List.getElem?_eq_some_iff.1 hv).1;have:=(w7 q2).1;omega
          rw [List.getElem?_take,if_pos (hmul i j n hj hi),Array.getElem?_toList]
          exact q3 j v hv
      obtain ⟨olds,q1,q2,q3⟩:=holds
      have hr:=run_append_grow (P:=c.P) w T ty e ie z hT hie hzv ⟨k,0,none⟩ n cc olds q1 q2 ⟨b',o',none⟩ m c1 news hl hnews' (by omega) hsm (growslice_fits (by omega) (by rw [hib];exact hbytes))
      exact ⟨_,_,_,_,grownCap_ge w (n+m) cc e,hr,grown cc olds (by omega) q1 q3⟩
def a4k (o:Oper):Option (Operand×Operand×TypeId):=match o.op with
  | .call cl => match cl.callee, cl.args.toList, cl.argTypes.toList with
    | .builtin .append, [x, y], [T, T'] => match Nat.beq T T' with
      | true=>some (x,y,T)
      | false=>none
    | _,_,_=>none
  | _=>none
def a1j (tt:TypeId→Option TyI) (T:TypeId):Option (Nat×Nat×List Value):=match tt T with
  | some ti => match ti.kind with
    | .slice e sz => match tt e with
      | some te => match te.zero with
        | some zs => match zs.all (·.oneCell'), Nat.beq zs.length sz, Nat.ble 1 sz with
          | true,true,true=>some (sz,te.bytes,zs)
          | _,_,_=>none
        | none=>none
      | none=>none
    | _=>none
  | none=>none
theorem c7w {o:Oper} {x y:Operand} {T:TypeId} (h:a4k o=some (x,y,T)):o.op= .call { callee:=.builtin .append,args:=#[x,y],argTypes:=#[T,T] }:=by
  unfold a4k at h
  split at h
  · rename_i cl ho
    obtain ⟨f,args,ats⟩:=cl
    dsimp only at h
    split at h
    · rename_i x' y' T1 T2 ha hat
      split at h
      · rename_i e
        cases h
        have e1:args=#[x,y]:=by rw [←Array.toList_inj];exact ha
        have e2:ats=#[T,T2]:=by rw [←Array.toList_inj];exact hat
        rw [ho,e1,e2,←Nat.eq_of_beq_eq_true e]
      · cases h
    · cases h
  · cases h
theorem c4u {tt:TypeId→Option TyI} {T:TypeId} {sz bytes:Nat} {zs:List Value} (h:a1j tt T=some (sz,bytes,zs)):∃ti e te,tt T=some ti∧ti.kind= .slice e sz∧tt e=some te∧te.zero=some zs∧te.bytes=bytes∧zs.all (·.oneCell')=true∧zs.length=sz∧0 < sz:=by
  unfold a1j at h
  split at h
  · rename_i ti ht
    split at h
    · rename_i e sz' hk
      split at h
      · rename_i te hte
        split at h
        · rename_i zs' hz
          split at h
          · rename_i h1 h2 h3
            cases h
            exact ⟨ti,e,te,ht,hk,hte,hz,rfl,h1,Nat.eq_of_beq_eq_true h2,Nat.le_of_ble_eq_true h3⟩
          · cases h
        · cases h
      · cases h
    · cases h
  · cases h
theorem b9y {ops:Array Oper} {K:St→Prop} {ps:List Prop} {o:Oper} {rest:List Oper} {sh:List Sh} (hc:a0d c) (b n cc m:Nat) (g g':Nat→List i7) {x y:Operand} {T:TypeId} {sz bytes:Nat} {zs:List Value}
    (ho:a4k o=some (x,y,T)) (ht:a1j c.tt T=some (sz,bytes,zs)) (hb:c.nb0≤b) (hx:Sub (a1o st.t x) (.one (.gr b sz n cc))) (hy:Sub (a1o st.t y) (.one (.row sz m g'))) (hn:n≤cc)
    (hbox:(n=0∧cc=0)∨∃ro,st.h b=some ⟨sz,cc,g,ro⟩) (hg:∀i,i < n→clL 0 (g i)) (hm:0 < m) (h63:n+m≤9223372036854775807) (hbytes:(n+m)*bytes≤140737488355328) (hp:y8 ps)
    (h:∀c',n+m≤c'→t8 c.P c.G c.ns ops (a22 c ops K) (n9 c.tt c.ns ops rest (st.app o.dst b sz n m c' g g') [] []) fun st' _=>K st'):t8 c.P c.G c.ns ops (a22 c ops K) (.hand ps o rest st sh) fun st' _=>K st':=by
  refine c8x hp ?_
  intro k hnb hk hr hlen hok Q' hQ E a w s hw
  have hop:=c7w ho
  obtain ⟨ti,e,te,q1,q2,q3,q4,q5,q6,q7,q8⟩:=c4u ht
  subst q5
  obtain ⟨g1,g2,g3⟩:=hok o (by simp)
  have hev:∀z∈o.op.operands,RV E w (a1o st.t z) (a.eval z):=fun z hz=>a98 s.slots z (g2 z hz)
  have hvx:=hx _ _ _ (hev x (by rw [hop];simp [Op.operands,Call.operands]))
  have hvy:=hy _ _ _ (hev y (by rw [hop];simp [Op.operands,Call.operands]))
  obtain ⟨c',v',w',E',r1,r2,r3⟩:=d3z hc s o.dst g1 (ty:=o.type) (hc.tt _ _ q1) q2 (hc.tt _ _ q3) q4 q6 q7 q8 b n cc m g g' hb hvx hn hbox hg hvy hm (by unfold maxLen;exact h63) hbytes
  rw [List.range'_succ,wpOps_cons]
  unfold wpOp
  rw [hk]
  dsimp only
  rw [hw]
  simp only [if_true]
  refine .inl ?_
  unfold Oper.wp execOp
  simp only [hop,resolve,invoke,builtin,Sem.run_bind,Sem.run_pure,Result.andThen_ok,List.map_toArray,List.map_cons,List.map_nil,r2]
  have h:=(a0j hc.tt _ _ _ _ (h c' r1)).2
  refine c0b hc h (fun j=>hr j) (by omega) ?_ (fun o' ho'=>hok o' (by simp [ho'])) Q' hQ E' _ w' r3
  show c.nb0≤(match Nat.ble st.nb b with|true=>b+1|false=>st.nb)
  cases Nat.ble st.nb b with
  | true=>show c.nb0≤b+1;omega
  | false=>exact hnb
theorem a4c {b sz:Nat}:Sub (.one (.v (.slice none 0 0))) (.one (.gr b sz 0 0)):=by
  rintro E w v ⟨_,h,_⟩
  exact ⟨rfl,.inl ⟨rfl,rfl,h⟩⟩
theorem a5h {b sz n cc:Nat}:Sub (.one (.own b sz 0 n cc)) (.one (.gr b sz n cc)):=by
  rintro E w v ⟨_,k,h,h1⟩
  exact ⟨rfl,.inr ⟨k,h,by simpa using h1⟩⟩
theorem c9m {b sz n cc:Nat} (h:0 < cc):Sub (.one (.gr b sz n cc)) (.one (.own b sz 0 n cc)):=by
  rintro E w v ⟨_,h1|⟨k,h1,h2⟩⟩
  · omega
  · exact ⟨rfl,k,h1,by simpa using h2⟩
theorem a6q {b sz n cc n' cc':Nat} (h:n=n') (h':cc=cc'):Sub (.one (.gr b sz n cc)) (.one (.gr b sz n' cc')):=h ▸ h' ▸ Sub.refl _
theorem c4x {k:IntKind} {l:List Int}:Sub (.one (.ints k l)) (.one (.row 1 l.length fun i=> [.v (.int k (l.getD i 0))])):=by
  rintro E w v ⟨_,x,h,h1⟩
  simp only [List.cons.injEq,and_true] at h
  subst h
  refine ⟨rfl,?_⟩
  rcases h1 with ⟨rfl,rfl⟩|⟨b,o,c,rfl,h1,h2,h3⟩
  · exact .inl ⟨rfl,rfl⟩
  · refine .inr ⟨b,o,c,rfl,h1,h2,fun i hi=>⟨[.int k (l.getD i 0)],rfl,⟨[_],[],rfl,⟨rfl,rfl⟩,rfl⟩,b60 h3 ?_⟩⟩
    simp [List.getD_eq_getElem?_getD,hi]
-- axioms of b9y
end Go.Ax
end
section
namespace Go.Ax
def a6k (k:IntKind) (ls:List Int) (i:Nat):List i7:=if i < ls.length then [.v (.int k (ls.getD i 0))] else [.u]
theorem b8v {k:IntKind} {ls:List Int} {i:Nat} (h:i < ls.length):a6k k ls i= [.v (.int k (ls.getD i 0))]:=if_pos h
theorem c4l {k:IntKind} {ls:List Int} {n:Nat} (i:Nat):clL n (a6k k ls i):=by
  unfold a6k;split <;> exact ⟨trivial,trivial⟩
variable {c:Ctx} {Q:Exit→St→Prop} {st:St}
abbrev St.appI (st:St) (dst:Option Tmp) (b n c':Nat) (k:IntKind) (ls:List Int):St:=st.appG dst b 1 n c' (a6k k ls)
theorem c05 {l l':List Int} {i:Nat} (h:i < l.length):(l++l').getD i 0=l.getD i 0:=by
  simp [List.getD_eq_getElem?_getD,List.getElem?_append_left h]
theorem b9s {l l':List Int} {i:Nat} (h:¬i < l.length):(l++l').getD i 0=l'.getD (i - l.length) 0:=by
  simp [List.getD_eq_getElem?_getD,List.getElem?_append_right (Nat.le_of_not_lt h)]
theorem b2f {ops:Array Oper} {K:St→Prop} {ps:List Prop} {o:Oper} {rest:List Oper} {sh:List Sh} (hc:a0d c) (b n cc m:Nat) (k:IntKind) (ls new:List Int) {x y:Operand} {T:TypeId} {bytes:Nat} {zs:List Value}
    (ho:a4k o=some (x,y,T)) (ht:a1j c.tt T=some (1,bytes,zs)) (hb:Nat.ble c.nb0 b=true) (hx:Sub (a1o st.t x) (.one (.gr b 1 n cc))) (hy:Sub (a1o st.t y) (.one (.row 1 m fun i=> [.v (.int k (new.getD i 0))])))
    (hbox:(ls= []∧cc=0)∨∃ro,st.h b=some ⟨1,cc,a6k k ls,ro⟩) (hls:ls.length=n) (hnew:new.length=m) (hm:0 < m) (hn:n≤cc) (h63:n+m≤9223372036854775807) (hbytes:(n+m)*bytes≤140737488355328) (hp:y8 ps)
    (h:∀c',n+m≤c'→t8 c.P c.G c.ns ops (a22 c ops K) (n9 c.tt c.ns ops rest (st.appI o.dst b (n+m) c' k (ls++new)) [] []) fun st' _=>K st'):t8 c.P c.G c.ns ops (a22 c ops K) (.hand ps o rest st sh) fun st' _=>K st':=by
  refine b9y hc b n cc m (a6k k ls) (fun i=> [.v (.int k (new.getD i 0))]) ho ht (Nat.le_of_ble_eq_true hb) hx hy hn ?_ (fun i _=>c4l i) hm h63 hbytes hp fun c' hc'=>?_
  · rcases hbox with ⟨h1,h2⟩|h
    · subst h1;exact .inl ⟨hls.symm,h2⟩
    · exact .inr h
  · have e:(fun i=>if i < n then a6k k ls i else if i < n+m then (fun i=> [i7.v (.int k (new.getD i 0))]) (i - n) else List.replicate 1 .u)=a6k k (ls++new):=by
      funext i
      unfold a6k
      rw [List.length_append,hls,hnew]
      by_cases h1:i < n
      · rw [if_pos h1,if_pos h1,if_pos (by omega),c05 (by omega)]
      · rw [if_neg h1]
        by_cases h2:i < n+m
        · rw [if_pos h2,if_pos h2,b9s (by omega),hls]
        · rw [if_neg h2,if_neg h2];rfl
    have:=h c' hc'
    have e2:st.app o.dst b 1 n m c' (a6k k ls) (fun i=> [.v (.int k (new.getD i 0))])=st.appI o.dst b (n+m) c' k (ls++new):=by
      unfold St.app St.appI
      rw [e]
    rw [e2]
    exact this
theorem b8h {code:Code} (hc:a0d c) (b s n cc:Nat) (k:IntKind) (ls:List Int) (l:List (Nat×AV)) (hs:List (Nat×Box)) (nb:Nat) (l':List (Nat×AV)) (hs':List (Nat×Box))
    (hw:a1r c.nb0 st (n5 ((s,.one (.gr b 1 n cc)) :: l) ((b,⟨1,cc,a6k k ls,true⟩) :: hs) nb))
    (hb:Nat.ble c.nb0 b=true) (hn:ls.length=n) (hcc:n≤cc)
    (hl:l.map (fun p=>(p.1,b4c b k n (fun i=>ls.getD i 0) p.2))=l') (hh:hs.map (fun p=>(p.1,a35 b k n (fun i=>ls.getD i 0) p.2))=hs') (hnb:∀p∈hs,p.1≠b)
    (h:Wp c code Q (n5 ((s,.one (.ints k ls)) :: l') hs' nb)):Wp c code Q st:=by
  refine m7 hw ?_
  refine b82 hc b (Nat.le_of_ble_eq_true hb) (bx:=⟨1,cc,a6k k ls,true⟩) (by simp [n5,boxes,a5t]) rfl n hcc k (fun i=>ls.getD i 0) (fun i hi=>b8v (by omega)) ?_
  have e:(List.range n).map (fun j=>ls.getD j 0)=ls:=by
    subst hn
    apply List.ext_getElem
    · simp
    · intro i h1 h2;simp [h2]
  have et:(⟨fun m=>b4c b k n (fun i=>ls.getD i 0) ((n5 ((s,.one (.gr b 1 n cc)) :: l) ((b,⟨1,cc,a6k k ls,true⟩) :: hs) nb).t m),fun x=>if x=b then none else ((n5 ((s,.one (.gr b 1 n cc)) :: l) ((b,⟨1,cc,a6k k ls,true⟩) :: hs) nb).h x).map (a35 b k n (fun i=>ls.getD i 0)),nb⟩:St)=n5 ((s,.one (.ints k ls)) :: l') hs' nb:=by
    simp only [n5,St.mk.injEq,and_true]
    refine ⟨?_,?_⟩
    · funext m
      rw [b36,List.map_cons,hl]
      simp only [b4c,a71,if_true,Nat.le_refl,and_self,hcc,e]
    · funext x
      by_cases hx:x=b
      · subst hx
        rw [if_pos rfl]
        have:∀(q:List (Nat×Box)),(∀p∈q,p.1≠x)→boxes q x=none:=by
          intro q
          induction q with
          | nil=>intro _;rfl
          | cons p q ih =>
            intro hq
            have h1:=hq p (List.mem_cons_self ..)
            simp only [boxes,a5t]
            cases e1:Nat.beq x p.1 with
            | true=>exact absurd (Nat.eq_of_beq_eq_true e1).symm h1
            | false=>exact ih fun p hp=>hq p (List.mem_cons_of_mem _ hp)
        rw [this]
        intro p hp
        rw [←hh] at hp
        obtain ⟨q,hq,rfl⟩:=List.mem_map.1 hp
        exact hnb q hq
      · rw [if_neg hx]
        have:boxes ((b,⟨1,cc,a6k k ls,true⟩) :: hs) x=boxes hs x:=by
          simp only [boxes,a5t]
          cases e1:Nat.beq x b with
          | true=>exact absurd (Nat.eq_of_beq_eq_true e1) hx
          | false=>rfl
        rw [this,b3l,hh]
  rw [←et] at h
  exact h
def d3r (p:Nat→Prop):Prop:=∀c',p c'
theorem a26 {q:Nat→Prop} {r:Nat→Prop} (h:∀c',q c'→r c'):d3r fun c'=>q c'→r c':=h
theorem c6t {ops:Array Oper} {K:St→Prop} {ps:List Prop} {o:Oper} {rest:List Oper} {sh:List Sh} (hc:a0d c) {b n cc:Nat} {k:IntKind} {ls:List Int} {d:Int} {x y:Operand} {T:TypeId} {bytes:Nat} {zs:List Value} {g':Nat→List i7} {ro:Bool}
    (ho:Is (a4k o) (some (x,y,T))) (ht:Is (a1j c.tt T) (some (1,bytes,zs))) (hx:Is (a1o st.t x) (.one (.gr b 1 n cc))) (hy:Is (a1o st.t y) (.one (.row 1 1 g'))) (hg:Is (g' 0) [.v (.int k d)])
    (hbox:Is (st.h b) (some ⟨1,cc,a6k k ls,ro⟩)) (hb:Is (Nat.ble c.nb0 b) true) (hp:y8 ps) (hs:y8 [ls.length=n,n≤cc,n≤1000000000000,bytes≤100])
    (h:d3r fun c'=>n+1≤c'→t8 c.P c.G c.ns ops (a22 c ops K) (n9 c.tt c.ns ops rest (st.appI o.dst b (n+1) c' k (ls++ [d])) [] []) fun st' _=>K st'):t8 c.P c.G c.ns ops (a22 c ops K) (.hand ps o rest st sh) fun st' _=>K st':=by
  obtain ⟨h1,h2,h3,h4,_⟩:=hs
  have hx:a1o st.t x=_:=hx
  have hy:a1o st.t y=_:=hy
  have hg:g' 0=_:=hg
  have hm:(n+1)*bytes≤(1000000000000+1)*100:=Nat.mul_le_mul (by omega) h4
  refine b2f hc b n cc 1 k ls [d] ho ht hb (hx ▸ Sub.refl _) (hy ▸ ?_) (.inr ⟨ro,hbox⟩) h1 rfl Nat.zero_lt_one h2 (by omega) (by omega) hp h
  rintro E w v ⟨_,h⟩
  refine ⟨rfl,h.imp id ?_⟩
  rintro ⟨b,o,c,h1,h2,h3,h4⟩
  refine ⟨b,o,c,h1,h2,h3,fun i hi=>?_⟩
  obtain rfl:i=0:=by omega
  have:=h4 0 hi
  rw [hg] at this
  exact this
theorem c3w {ops:Array Oper} {K:St→Prop} {ps:List Prop} {o:Oper} {rest:List Oper} {sh:List Sh} (hc:a0d c) {k:IntKind} {d:Int} {x y:Operand} {T:TypeId} {bytes:Nat} {zs:List Value} {g':Nat→List i7}
    (ho:Is (a4k o) (some (x,y,T))) (ht:Is (a1j c.tt T) (some (1,bytes,zs))) (hx:Is (a1o st.t x) (.one (.v (.slice none 0 0)))) (hy:Is (a1o st.t y) (.one (.row 1 1 g'))) (hg:Is (g' 0) [.v (.int k d)])
    (hb:Is (Nat.ble c.nb0 st.nb) true) (hp:y8 ps) (hs:y8 [bytes≤100])
    (h:d3r fun c'=>1≤c'→t8 c.P c.G c.ns ops (a22 c ops K) (n9 c.tt c.ns ops rest (st.appI o.dst st.nb 1 c' k [d]) [] []) fun st' _=>K st'):t8 c.P c.G c.ns ops (a22 c ops K) (.hand ps o rest st sh) fun st' _=>K st':=by
  obtain ⟨h4,_⟩:=hs
  have hx:a1o st.t x=_:=hx
  have hy:a1o st.t y=_:=hy
  have hg:g' 0=_:=hg
  refine b2f hc st.nb 0 0 1 k [] [d] ho ht hb (hx ▸ a4c) (hy ▸ ?_) (.inl ⟨rfl,rfl⟩) rfl rfl Nat.zero_lt_one (Nat.le_refl _) (by omega) (by omega) hp (fun c' hc'=>h c' (by omega))
  rintro E w v ⟨_,h⟩
  refine ⟨rfl,h.imp id ?_⟩
  rintro ⟨b,o,c,h1,h2,h3,h4⟩
  refine ⟨b,o,c,h1,h2,h3,fun i hi=>?_⟩
  obtain rfl:i=0:=by omega
  have:=h4 0 hi
  rw [hg] at this
  exact this
-- axioms of b2f
-- axioms of b8h
end Go.Ax
end
