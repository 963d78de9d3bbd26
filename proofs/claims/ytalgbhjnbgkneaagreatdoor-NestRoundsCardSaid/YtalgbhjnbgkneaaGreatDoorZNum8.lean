/- Lemmas on the program and its library, part Num8. -/
import Derived.ArgAppend
import Derived.Test.YtalgbhjnbgkneaaGreatDoorZAx11
set_option linter.unusedVariables false
set_option linter.unusedSimpArgs false
section
namespace Go.Ax
theorem val_drop (B:Nat) (l:List Nat) (k:Nat) (h:k≤l.length):val B l=val B (l.take k)+B ^ k*val B (l.drop k):=by
  conv=>lhs;rw [←List.take_append_drop k l]
  rw [val_append,List.length_take,Nat.min_eq_left h]
/-! ## By one digit -/
structure D1 (B:Nat) (a:List Nat) (b:Nat) (o:List Nat) (k rest:Nat):Prop where
  lt:∀d∈o,d < B
  len:o.length=a.length
  hk:k≤a.length
  hr:rest < b
  eq:val B o*b+rest*B ^ k+val B (a.take k)=val B a
  zero:∀i,i < k→o.getD i 0=0
theorem D1.start {B:Nat} (hB:0 < B) (a:List Nat) {b:Nat} (hb:0 < b):D1 B a b (List.replicate a.length 0) a.length 0:=
  ⟨fun d hd=>by rw [(List.mem_replicate.1 hd).2];exact hB,by simp,Nat.le_refl _,hb,by rw [val_replicate,List.take_length];simp,fun k _=>by
    simp only [List.getD_eq_getElem?_getD,List.getElem?_replicate];split <;> rfl⟩
theorem D1.step {B:Nat} {a:List Nat} {b:Nat} {o:List Nat} {k rest:Nat} (h:D1 B a b o (k+1) rest) (ha:∀d∈a,d < B) :
    (rest*B+a.getD k 0) / b < B∧D1 B a b (o.set k ((rest*B+a.getD k 0) / b)) k ((rest*B+a.getD k 0)%b):=by
  have hr:=h.hr
  have hb:0 < b:=by omega
  have hk:=h.hk
  have hlen:=h.len
  have hB:0 < B:=by
    cases ha':a with
    | nil=>rw [ha'] at hk;simp at hk
    | cons x r=>have:=ha x (by rw [ha'];simp);omega
  have hd:=getD_lt hB ha k
  have hq:(rest*B+a.getD k 0) / b < B:=by
    rw [Nat.div_lt_iff_lt_mul hb]
    have:(rest+1)*B≤b*B:=Nat.mul_le_mul_right _ hr
    rw [Nat.add_mul] at this
    rw [Nat.mul_comm B];omega
  refine ⟨hq,set_lt h.lt hq,by rw [List.length_set];exact hlen,by omega,Nat.mod_lt _ hb,?_,fun i hi=>?_⟩
  · have e1:=val_set B o k ((rest*B+a.getD k 0) / b) (by omega)
    rw [h.zero k (by omega),Nat.mul_zero,Nat.add_zero] at e1
    have e2:=h.eq
    rw [val_take_succ,Nat.pow_succ] at e2
    have e3:=Nat.div_add_mod (rest*B+a.getD k 0) b
    rw [e1]
    generalize (rest*B+a.getD k 0) / b=q at *
    generalize (rest*B+a.getD k 0)%b=r at *
    generalize a.getD k 0=x at *
    generalize val B o=vo at *
    generalize val B (a.take k)=vt at *
    generalize B ^ k=p at *
    have e4:p*(b*q+r)=p*(rest*B+x):=by rw [e3]
    grind
  · rw [getD_set _ _ (by omega),if_neg (by omega)];exact h.zero i (by omega)
theorem D1.done {B:Nat} {a:List Nat} {b:Nat} {o:List Nat} {rest:Nat} (h:D1 B a b o 0 rest):val B o=val B a / b∧rest=val B a%b:=by
  have e:=h.eq
  simp only [Nat.pow_zero,Nat.mul_one,List.take_zero,val,Nat.add_zero] at e
  have hr:=h.hr
  have:=(Nat.div_mod_unique (show 0 < b by omega) (a:=val B a) (c:=rest) (d:=val B o)).2 ⟨by rw [Nat.mul_comm];omega,hr⟩
  exact ⟨this.1.symm,this.2.symm⟩
/-! ## The rows of the long division -/
structure DRows (B A V:Nat) (n:Nat) (u q:List Nat) (k:Nat):Prop where
  ltu:∀d∈u,d < B
  ltq:∀d∈q,d < B
  len:n+k≤u.length
  lq:k≤q.length
  eq:val B u+V*val B q=A
  low:val B u < V*B ^ k
  zero:∀i,i < k→q.getD i 0=0
theorem window {B:Nat} {u:List Nat} {j n V:Nat} (hlt:∀d∈u,d < B) (hlen:j+(n+1)≤u.length) (hV:V < B ^ n) (hlow:val B u < V*B ^ (j+1)) :
    val B u=val B (u.take j)+B ^ j*val B ((u.drop j).take (n+1))∧val B ((u.drop j).take (n+1)) < B*V∧val B (u.drop (j+(n+1)))=0:=by
  have e1:=val_drop B u j (by omega)
  have e2:=val_drop B (u.drop j) (n+1) (by simp;omega)
  rw [List.drop_drop] at e2
  have h0:val B (u.drop (j+(n+1)))=0:=by
    rcases Nat.eq_zero_or_pos (val B (u.drop (j+(n+1)))) with h|h
    · exact h
    · exfalso
      have h1:B ^ j*(B ^ (n+1)*1)≤B ^ j*(B ^ (n+1)*val B (u.drop (j+(n+1)))):=Nat.mul_le_mul_left _ (Nat.mul_le_mul_left _ h)
      have h2:V*B ^ (j+1)≤B ^ n*B ^ (j+1):=Nat.mul_le_mul_right _ (Nat.le_of_lt hV)
      have h3:B ^ j*(B ^ (n+1)*1)=B ^ n*B ^ (j+1):=by rw [Nat.pow_succ,Nat.pow_succ];grind
      have h4:B ^ j*val B (u.drop j)=B ^ j*val B ((u.drop j).take (n+1))+B ^ j*(B ^ (n+1)*val B (u.drop (j+(n+1)))):=by rw [e2,Nat.mul_add]
      omega
  rw [h0,Nat.mul_zero,Nat.add_zero] at e2
  refine ⟨by rw [e1,e2],?_,h0⟩
  rw [e2] at e1
  have hp:0 < B ^ j:=by
    rcases Nat.eq_zero_or_pos (B ^ j) with h|h
    · rw [Nat.pow_succ,h] at hlow;simp at hlow
    · exact h
  have h5:B ^ j*val B ((u.drop j).take (n+1)) < B ^ j*(B*V):=by
    have:V*B ^ (j+1)=B ^ j*(B*V):=by rw [Nat.pow_succ];grind
    omega
  exact Nat.lt_of_mul_lt_mul_left h5
theorem val_rw3 {B:Nat} {o d:List Nat} {j:Nat} (h:j+d.length≤o.length):val B (rw3 o j d)=val B (o.take j)+B ^ j*(val B d+B ^ d.length*val B (o.drop (j+d.length))):=by
  rw [rw3,val_append,val_append,List.length_take,Nat.min_eq_left (by omega)]
theorem DRows.step {B A V n j:Nat} {u q:List Nat} (hB:0 < B) (hVp:0 < V) (hV:V < B ^ n) (h:DRows B A V n u q (j+1)) :
    val B ((u.drop j).take (n+1)) < B*V∧val B ((u.drop j).take (n+1)) / V < B∧
    DRows B A V n (rw3 u j (fixd B (n+1) (val B ((u.drop j).take (n+1))%V))) (q.set j (val B ((u.drop j).take (n+1)) / V)) j:=by
  have hlen:=h.len
  have hlq:=h.lq
  obtain ⟨e1,e2,e3⟩:=window (n:=n) h.ltu (by omega) hV h.low
  have hq:val B ((u.drop j).take (n+1)) / V < B:=by rw [Nat.div_lt_iff_lt_mul hVp];exact e2
  generalize val B ((u.drop j).take (n+1))=W at *
  have hr:=Nat.mod_lt W hVp
  have hfl:=fixd_len B (n+1) (W%V)
  have hfv:val B (fixd B (n+1) (W%V))=W%V:=by
    rw [fixd_val,Nat.mod_eq_of_lt]
    have:B ^ n*1≤B ^ n*B:=Nat.mul_le_mul_left _ hB
    rw [Nat.pow_succ];omega
  have hv:=val_rw3 (B:=B) (o:=u) (j:=j) (d:=fixd B (n+1) (W%V)) (by rw [hfl];omega)
  rw [hfl,e3,hfv] at hv
  simp only [Nat.mul_zero,Nat.add_zero] at hv
  have htake:=val_lt B (u.take j) fun d hd=>h.ltu d (List.mem_of_mem_take hd)
  rw [List.length_take,Nat.min_eq_left (by omega)] at htake
  refine ⟨e2,hq,rw3_lt h.ltu (fixd_lt hB _ _),set_lt h.ltq hq,by rw [rw3_len (by rw [hfl];omega)];omega,by rw [List.length_set];omega,?_,?_,fun i hi=>?_⟩
  · have e4:=val_set B q j (W / V) (by omega)
    rw [h.zero j (by omega),Nat.mul_zero,Nat.add_zero] at e4
    have e5:=h.eq
    have e6:=Nat.div_add_mod W V
    rw [hv,e4]
    rw [e1] at e5
    generalize val B (u.take j)=t at *
    generalize val B q=vq at *
    generalize W / V=x at *
    generalize W%V=r at *
    generalize B ^ j=p at *
    have:p*(V*x+r)=p*W:=by rw [e6]
    grind
  · rw [hv]
    have h':W%V+1≤V:=hr
    have:=Nat.mul_le_mul_left (B ^ j) h'
    rw [Nat.mul_add,Nat.mul_one] at this
    rw [Nat.mul_comm V];omega
  · rw [getD_set _ _ (by omega),if_neg (by omega)];exact h.zero i (by omega)
theorem DRows.done {B A V n:Nat} {u q:List Nat} (h:DRows B A V n u q 0):val B q=A / V∧val B u=A%V:=by
  have e:=h.eq
  have hl:=h.low
  rw [Nat.pow_zero,Nat.mul_one] at hl
  have:=(Nat.div_mod_unique (show 0 < V by omega) (a:=A) (c:=val B u) (d:=val B q)).2 ⟨e,hl⟩
  exact ⟨this.1.symm,this.2.symm⟩
/-! ## Scaling -/
theorem scaled {b:List Nat} {n:Nat} (hn:b.length=n+1) (hb:Dig BB b):64 - bl (b.getD n 0) < 64∧val BB b*2 ^ (64 - bl (b.getD n 0)) < BB ^ (n+1)∧9223372036854775808*BB ^ n≤val BB b*2 ^ (64 - bl (b.getD n 0)):=by
  have ht:b.getD n 0≠0:=by
    have:=hb.last
    intro h
    apply this
    rw [List.getLast?_eq_getElem?,hn,Nat.add_sub_cancel]
    rw [List.getD_eq_getElem?_getD] at h
    cases e:b[n]? with
    | none=>rw [List.getElem?_eq_none_iff] at e;omega
    | some x=>rw [e] at h;simp at h;rw [h]
  have hlt:=getD_lt (by decide) hb.lt n
  obtain ⟨n1,n2,n3⟩:=norm_top ht hlt
  have htop:=val_top1 (B:=BB) hn
  have hlow:=val_lt BB (b.take n) fun d hd=>hb.lt d (List.mem_of_mem_take hd)
  rw [List.length_take,Nat.min_eq_left (by omega)] at hlow
  refine ⟨n3,?_,?_⟩
  · have h1:(b.getD n 0+1)*2 ^ (64 - bl (b.getD n 0))≤BB:=by
      have e2:BB=2 ^ bl (b.getD n 0)*2 ^ (64 - bl (b.getD n 0)):=by
        rw [←Nat.pow_add,show bl (b.getD n 0)+(64 - bl (b.getD n 0))=64 by have:=bl_le_of (n:=64) hlt;omega]
      conv=>rhs;rw [e2]
      exact Nat.mul_le_mul_right _ (bl_lt _)
    have h2:val BB b+1≤(b.getD n 0+1)*BB ^ n:=by rw [Nat.add_mul,htop];omega
    have h3:=Nat.mul_le_mul_right (2 ^ (64 - bl (b.getD n 0))) h2
    have h4:=Nat.mul_le_mul_right (BB ^ n) h1
    have hp:=Nat.two_pow_pos (64 - bl (b.getD n 0))
    have h5:(b.getD n 0+1)*BB ^ n*2 ^ (64 - bl (b.getD n 0))=(b.getD n 0+1)*2 ^ (64 - bl (b.getD n 0))*BB ^ n:=by
      rw [Nat.mul_assoc,Nat.mul_comm (BB ^ n),←Nat.mul_assoc]
    rw [h5] at h3
    rw [Nat.add_mul,Nat.one_mul] at h3
    rw [Nat.pow_succ,Nat.mul_comm (BB ^ n)]
    omega
  · have h1:=Nat.mul_le_mul_right (BB ^ n) n1
    have h2:b.getD n 0*BB ^ n≤val BB b:=by omega
    have h3:=Nat.mul_le_mul_right (2 ^ (64 - bl (b.getD n 0))) h2
    have h5:b.getD n 0*BB ^ n*2 ^ (64 - bl (b.getD n 0))=b.getD n 0*2 ^ (64 - bl (b.getD n 0))*BB ^ n:=by
      rw [Nat.mul_assoc,Nat.mul_comm (BB ^ n),←Nat.mul_assoc]
    rw [h5] at h3
    omega
theorem DRows.start {A V s n la:Nat} (hA:A < BB ^ la) (hs:s < 64) (hV:9223372036854775808*BB ^ (n+1)≤V) (hn:n+2≤la) :
    DRows BB (A*2 ^ s) V (n+2) (fixd BB (la+1) (A*2 ^ s)) (List.replicate (la - (n+2)+1) 0) (la - (n+2)+1):=by
  have h2:2 ^ s≤9223372036854775808:=Nat.pow_le_pow_right (by decide) (show s≤63 by omega)
  have h3:A*2 ^ s < BB ^ la*9223372036854775808:=by
    have h4:A*2 ^ s≤A*9223372036854775808:=Nat.mul_le_mul_left _ h2
    have h5:A*9223372036854775808 < BB ^ la*9223372036854775808:=Nat.mul_lt_mul_of_pos_right hA (by decide)
    omega
  have h6:BB ^ la*9223372036854775808≤V*BB ^ (la - (n+2)+1):=by
    have h7:=Nat.mul_le_mul_right (BB ^ (la - (n+2)+1)) hV
    have h8:9223372036854775808*BB ^ (n+1)*BB ^ (la - (n+2)+1)=BB ^ la*9223372036854775808:=by
      rw [Nat.mul_assoc,←Nat.pow_add,show n+1+(la - (n+2)+1)=la by omega,Nat.mul_comm]
    omega
  have hv:val BB (fixd BB (la+1) (A*2 ^ s))=A*2 ^ s:=by
    rw [fixd_val,Nat.mod_eq_of_lt]
    rw [Nat.pow_succ]
    have:BB ^ la*9223372036854775808≤BB ^ la*BB:=Nat.mul_le_mul_left _ (by decide)
    exact Nat.lt_of_lt_of_le h3 this
  refine ⟨fixd_lt (by decide) _ _,fun d hd=>by rw [(List.mem_replicate.1 hd).2];decide,by rw [fixd_len];omega,by simp,by rw [hv,val_replicate];simp,by rw [hv];omega,fun k _=>by
    simp only [List.getD_eq_getElem?_getD,List.getElem?_replicate];split <;> rfl⟩
end Go.Ax
end
section
namespace Go.Ax
theorem ite00 {α:Type} {a b:α}:(if (0:Nat)=0 then a else b)=a:=rfl
theorem boxesOk_one {nb b sz:Nat} {g g':Nat→List Leaf} {ro ro':Bool} {r:List (Nat×Option Box×Box)} (h0:Nat.ble (b+1) nb=true) (hcl:clL nb (g' 0)) (h:SubLv (g 0) (g' 0)) (h3:BoxesOk nb r):BoxesOk nb ((b,some ⟨sz,1,g,ro⟩,⟨sz,1,g',ro'⟩) :: r):=
  ⟨⟨h0,.inr ⟨_,rfl,rfl,Nat.le_refl _,(fun _=>.inr Nat.zero_lt_one),fun i hi=>by
    obtain rfl:i=0:=by have:i < 1:=hi;omega
    exact ⟨h,hcl⟩⟩⟩,h3⟩
/-! ## An integer in a variable: small or great -/
variable {c:Ctx} {Q:Exit→St→Prop} {st:St}
theorem subLv_int {a b:Int} {r r':List Leaf} (h:a=b) (hr:SubLv r r'):SubLv (.int a :: r) (.int b :: r'):=by
  subst h
  refine ⟨fun E w cs ⟨xs,ys,e,h1,h2⟩=>⟨xs,ys,e,h1,hr.1 _ _ _ h2⟩,by simp [sizes,hr.2]⟩
theorem subLv_frac {a b:Rat} {r r':List Leaf} (h:a=b) (hr:SubLv r r'):SubLv (.frac a :: r) (.frac b :: r'):=by
  subst h
  refine ⟨fun E w cs ⟨xs,ys,e,h1,h2⟩=>⟨xs,ys,e,h1,hr.1 _ _ _ h2⟩,by simp [sizes,hr.2]⟩
theorem SubLv.trans {a b c:List Leaf} (h:SubLv a b) (g:SubLv b c):SubLv a c:=⟨fun _ _ _ x=>g.1 _ _ _ (h.1 _ _ _ x),g.2.trans h.2⟩
end Go.Ax
end
section
namespace Go.Ax
open Go.RowKit (Below)
def killL (b:Nat):Leaf→Leaf
  | .own b' sz i m c => match Nat.beq b' b with
    | true=>.u
    | false=>.own b' sz i m c
  | .gr b' sz m c => match Nat.beq b' b with
    | true=>.u
    | false=>.gr b' sz m c
  | .ptr b' sz i o => match Nat.beq b' b with
    | true=>.u
    | false=>.ptr b' sz i o
  | .fn f xs ys => match xs, ys with
    | [],[]=>.fn f [] []
    | xs, ys => match xs.all Leaf.clB, ys.all Leaf.clB with
      | true,true=>.fn f xs ys
      | _,_=>.u
  | l=>l
mutual
def kill (b:Nat):AV→AV
  | .one l=>.one (killL b l)
  | .agg ls=>.agg (ls.map (killL b))
  | .tup xs=>.tup (kills b xs)
  | .u=>.u
def kills (b:Nat):List AV→List AV
  | []=> []
  | x :: xs=>kill b x :: kills b xs
end
def killBox (b:Nat) (bx:Box):Box:={ bx with g:=fun i=>(bx.g i).map (killL b) }
def Env.hide (E:Env) (b:Nat):Env:={ ρ:=fun x=>if x=b then none else E.ρ x,M:=fun j=>E.M j∨E.ρ b=some j }
section
variable {E:Env} {w:World} {b:Nat}
theorem hide_ok {k:Nat}:(E.hide b).ok w k↔E.ok w k:=by
  constructor
  · rintro ⟨h1,h2,h3⟩
    refine ⟨h1,fun h=>h2 (.inl h),fun x hx=>?_⟩
    by_cases e:x=b
    · subst e;exact h2 (.inr hx)
    · exact h3 x (by simp [Env.hide,e,hx])
  · rintro ⟨h1,h2,h3⟩
    refine ⟨h1,fun h=>h.elim h2 (h3 b),fun x hx=>?_⟩
    simp only [Env.hide] at hx
    split at hx
    · cases hx
    · exact h3 x hx
theorem into_hide:Into 0 E (E.hide b) w:=⟨fun _ _ h=>absurd h (Nat.not_lt_zero _),fun _ h=>hide_ok.2 h⟩
theorem beq_false {x y:Nat} (h:Nat.beq x y=false):x≠y:=fun e=>by rw [e,Nat.beq_refl] at h;cases h
theorem killL_R {l:Leaf} {cs:List Value} (h:l.R E w cs):(killL b l).R (E.hide b) w cs:=by
  cases l with
  | ptr b' sz i o =>
    obtain ⟨j,h1,rfl⟩:=h
    simp only [killL]
    split
    · exact ⟨_,rfl,rfl⟩
    · rename_i e;exact ⟨j,by simp [Env.hide,beq_false e,h1],rfl⟩
  | own b' sz i m c =>
    obtain ⟨j,h1,rfl⟩:=h
    simp only [killL]
    split
    · exact ⟨_,rfl,rfl⟩
    · rename_i e;exact ⟨j,by simp [Env.hide,beq_false e,h1],rfl⟩
  | gr b' sz m c =>
    simp only [killL]
    split
    · rcases h with ⟨rfl,rfl,rfl|⟨_,_,rfl,_⟩⟩|⟨j,h1,rfl⟩<;> exact ⟨_,rfl,rfl⟩
    · rename_i e
      rcases h with h|⟨j,h1,rfl⟩
      · exact .inl ⟨h.1,h.2.1,h.2.2.mono fun _ hk=>hide_ok.2 hk⟩
      · exact .inr ⟨j,by simp [Env.hide,beq_false e,h1],rfl⟩
  | fn f a c =>
    simp only [killL]
    split
    · obtain ⟨xs,ys,rfl,h1,h2⟩:=h;exact ⟨xs,ys,rfl,h1,h2⟩
    · split
      · rename_i e1 e2
        obtain ⟨xs,ys,rfl,h1,h2⟩:=h
        exact ⟨xs,ys,rfl,(into_hide (b:=b)).leaves (clL_of e1) h1,(into_hide (b:=b)).leaves (clL_of e2) h2⟩
      · obtain ⟨xs,ys,rfl,_⟩:=h;exact ⟨_,rfl,rfl⟩
  | v x=>exact (into_hide (b:=b)).leaf (l:=.v x) trivial h
  | u=>exact (into_hide (b:=b)).leaf (l:=.u) trivial h
  | pp x=>exact (into_hide (b:=b)).leaf (l:=.pp x) trivial h
  | int z=>exact (into_hide (b:=b)).leaf (l:=.int z) trivial h
  | frac q=>exact (into_hide (b:=b)).leaf (l:=.frac q) trivial h
  | rint z=>exact (into_hide (b:=b)).leaf (l:=.rint z) trivial h
  | ints k l=>exact (into_hide (b:=b)).leaf (l:=.ints k l) trivial h
  | nn k l=>exact (into_hide (b:=b)).leaf (l:=.nn k l) trivial h
  | row sz n g=>exact (into_hide (b:=b)).leaf (l:=.row sz n g) trivial h
theorem killL_size (l:Leaf):(killL b l).size=l.size:=by
  cases l <;> simp only [killL] <;> (repeat' split) <;> rfl
theorem killLs_R:∀{ls:List Leaf} {cs:List Value},LeavesR E w ls cs→LeavesR (E.hide b) w (ls.map (killL b)) cs
  | [],_,h=>h
  | _ :: _,_,h=>by obtain ⟨xs,ys,a,c,d⟩:=h;exact ⟨xs,ys,a,killL_R c,killLs_R d⟩
theorem sizes_kill:∀(ls:List Leaf),sizes (ls.map (killL b))=sizes ls
  | []=>rfl
  | l :: ls=>by simp [sizes,killL_size,sizes_kill ls]
mutual
theorem kill_R:∀{x:AV} {v:Value},RV E w x v→RV (E.hide b) w (kill b x) v
  | .one _,_,h=>⟨by rw [killL_size];exact h.1,killL_R h.2⟩
  | .agg _,_,h=>by obtain ⟨cs,a,c⟩:=h;exact ⟨cs,a,killLs_R c⟩
  | .tup _,_,h=>by obtain ⟨vs,a,c⟩:=h;exact ⟨vs,a,kills_R c⟩
  | .u,_,_=>trivial
theorem kills_R:∀{xs:List AV} {vs:List Value},RVs E w xs vs→RVs (E.hide b) w (kills b xs) vs
  | [],_,h=>h
  | _ :: _,_,h=>by obtain ⟨v,r,a,c,d⟩:=h;exact ⟨v,r,a,kill_R c,kills_R d⟩
end
end
def St.appG (st:St) (dst:Option Tmp) (b sz nm c':Nat) (gg:Nat→List Leaf):St:=
  { t:=match dst with
      | some d=>upd (fun x=>kill b (st.t x)) d (.one (.gr b sz nm c'))
      | none=>fun x=>kill b (st.t x)
    h:=hupd (fun x=>(st.h x).map (killBox b)) b ⟨sz,c',gg,true⟩
    nb:=match Nat.ble st.nb b with
      | true=>b+1
      | false=>st.nb
    gh:=st.gh }
abbrev St.app (st:St) (dst:Option Tmp) (b sz n m c':Nat) (g g':Nat→List Leaf):St:=
  st.appG dst b sz (n+m) c' fun i=>if i < n then g i else if i < n+m then g' (i - n) else List.replicate sz .u
theorem row_news {E:Env} {w:World} {sz m:Nat} {g':Nat→List Leaf} {v:Value} (h:RV E w (.one (.row sz m g')) v) (hm:0 < m) :
    ∃(b' o' c':Nat) (news:List Value),v= .slice (some ⟨b',o',none⟩) m c'∧news.length=m*sz∧(∀j u,news[j]?=some u→w.cell? ⟨b',o'+j,none⟩=some u)∧E.ok w b'∧
      ∀i,i < m→∃es,sizes (g' i)=sz∧LeavesR E.shut w (g' i) es∧es.length=sz∧∀j v,es[j]?=some v→news[i*sz+j]?=some v:=by
  obtain ⟨_,h⟩:=h
  rcases h with ⟨rfl,_⟩|⟨b',o',c',h1,h2,h3,h4⟩
  · omega
  simp only [List.cons.injEq,and_true] at h1
  have key:∀k,k≤m→∃news:List Value,news.length=k*sz∧(∀j u,news[j]?=some u→w.cell? ⟨b',o'+j,none⟩=some u)∧
      ∀i,i < k→∃es,sizes (g' i)=sz∧LeavesR E.shut w (g' i) es∧es.length=sz∧∀j v,es[j]?=some v→news[i*sz+j]?=some v:=by
    intro k
    induction k with
    | zero=>exact fun _=>⟨[],by simp,(fun j u h=>by simp at h),fun i hi=>by omega⟩
    | succ k ih =>
      intro hk
      obtain ⟨news,q1,q2,q3⟩:=ih (by omega)
      obtain ⟨es,q4,q5,q6⟩:=h4 k (by omega)
      have hl:es.length=sz:=(LeavesR_len q5).1.trans q4
      refine ⟨news++es,by rw [List.length_append,q1,hl,Nat.add_mul];omega,fun j u hu=>?_,fun i hi=>?_⟩
      · rw [List.getElem?_append] at hu
        split at hu
        · exact q2 j u hu
        · rename_i hj
          have:=q6 _ _ hu
          rw [←this];congr 2;rw [q1] at hj ⊢;omega
      · by_cases e:i < k
        · obtain ⟨es',q7,q8,q9,q10⟩:=q3 i e
          refine ⟨es',q7,q8,q9,fun j v hv=>?_⟩
          have:=q10 j v hv
          rw [List.getElem?_append_left (List.getElem?_eq_some_iff.1 this).1];exact this
        · obtain rfl:i=k:=by omega
          refine ⟨es,q4,q5,hl,fun j v hv=>?_⟩
          rw [List.getElem?_append_right (by omega),q1]
          rw [←hv];congr 1;omega
  obtain ⟨news,q1,q2,q3⟩:=key m (Nat.le_refl _)
  exact ⟨b',o',c',news,h1,q1,q2,h2,q3⟩
variable {c:Ctx} {st:St}
theorem LeavesR_us {E:Env} {w:World}:∀(sz:Nat) (cs:List Value),cs.length=sz→(∀v∈cs,v.oneCell'=true)→LeavesR E w (List.replicate sz .u) cs
  | 0,[],_,_=>rfl
  | n+1,[],h,_=>by cases h
  | 0,_ :: _,h,_=>by cases h
  | n+1,v :: cs,h,h1=>⟨[v],cs,rfl,⟨v,rfl,h1 v (by simp)⟩,LeavesR_us n cs (by simpa using h) fun v hv=>h1 v (by simp [hv])⟩
theorem sizes_us:∀sz:Nat,sizes (List.replicate sz Leaf.u)=sz
  | 0=>rfl
  | n+1=>by simp only [List.replicate_succ,sizes,sizes_us n,Leaf.size];omega
theorem app_sr {c:Ctx} {st:St} {E:Env} {a:Act} {w w':World} (s:SR c st E a w) {dst:Option Tmp} {b sz n m c' k:Nat} {g g':Nat→List Leaf} {v':Value} {cur:Array Value} {T:TypeId} (hb:c.nb0≤b)
    (hw:(w.heap.size≤k∧k < w'.heap.size∧Below w.heap.size w w')∨(E.ρ b=some k∧Wrote k w w')) (hv:v'= .slice (some ⟨k,0,none⟩) (n+m) c') (hk:w'.heap[k]?=some (.cells cur T (0,0))) (hcs:c'*sz≤cur.size) (_hnm:n+m≤c')
    (hel:∀i,i < c'→∃es,sizes (if i < n then g i else if i < n+m then g' (i - n) else List.replicate sz .u)=sz∧LeavesR E.shut w (if i < n then g i else if i < n+m then g' (i - n) else List.replicate sz .u) es∧∀j v,es[j]?=some v→cur[i*sz+j]?=some v)
    (hc:CtxOk c) (hd:∀d,dst=some d→d < c.N):SR c (st.app dst b sz n m c' g g') (E.add b k) (a.put dst v') w':=by
  have hsize:w.heap.size≤w'.heap.size:=hw.elim (fun h=>h.2.2.size) (fun h=>h.2.size)
  have hkw:k < w'.heap.size:=(Array.getElem?_eq_some_iff.1 hk).1
  have hblock:∀j,j < w.heap.size→j≠k→w'.heap[j]?=w.heap[j]?:=fun j hj hjk=>by
    rcases hw with h|h
    · exact h.2.2.block j hj
    · exact h.2.block j hj hjk
  have hfresh:∀x,x≠b→E.ρ x≠some k:=fun x hx h=>by
    rcases hw with hw|hw
    · have:=s.env.r _ _ h;omega
    · exact hx (s.env.inj _ _ _ h hw.1)
  have hadd:∀x,x≠b→(E.add b k).ρ x=E.ρ x:=fun x hx=>by simp [Env.add,hx]
  have haddb:(E.add b k).ρ b=some k:=by simp [Env.add]
  have hMk:¬E.M k:=fun h=>by
    rcases hw with hw|hw
    · have:=s.env.m k h;omega
    · exact s.ownM _ _ (Nat.le_trans hc.ns hb) hw.1 h
  have hok:∀j,E.ok w j→(E.add b k).ok w' j∧w'.heap[j]?=w.heap[j]?:=fun j hj=>by
    have hjk:j≠k:=fun e=>by
      subst e
      rcases hw with hw|hw
      · have:=hj.1;omega
      · exact hj.2.2 b hw.1
    refine ⟨⟨Nat.lt_of_lt_of_le hj.1 hsize,hj.2.1,fun x hx=>?_⟩,hblock j hj.1 hjk⟩
    by_cases e:x=b
    · subst e;rw [haddb] at hx;cases hx;exact hjk rfl
    · rw [hadd x e] at hx;exact hj.2.2 x hx
  have hkeep:Keeps (E.hide b) w (E.add b k) w':=by
    refine ⟨fun x j hx=>?_,fun j hj=>(hok j (hide_ok.1 hj)).1,fun j hj=>(hok j (hide_ok.1 hj)).2⟩
    simp only [Env.hide] at hx
    split at hx
    · cases hx
    · rename_i e;rw [hadd x e];exact hx
  have hshut:Keeps E.shut w (E.add b k).shut w':=⟨(fun _ _ h=>(by cases h)),fun j hj=>shut_ok.2 (hok j (shut_ok.1 hj)).1,fun j hj=>(hok j (shut_ok.1 hj)).2⟩
  have hbel:BelowX c.W c.w0.heap.size c.w0 w':=by
    rcases hw with hw|hw
    · exact s.below.below hw.2.2 s.below.size
    · have hk':=s.own _ _ (Nat.le_trans hc.ns hb) hw.1
      exact ⟨hw.2.os.trans s.below.os,hw.2.tape.trans s.below.tape,hw.2.output.trans s.below.output,Nat.le_trans s.below.size hw.2.size,
        fun j hj hW=>(hw.2.block j (by have:=s.below.size;omega) (fun e=>by
          subst e
          rcases hk' with hk'|hk'
          · omega
          · exact hW hk'.1)).trans (s.below.block j hj hW)⟩
  have hsame:SameM c E w (E.add b k) w':=
    ⟨rfl,hbel.os.trans s.below.os.symm,hbel.tape.trans s.below.tape.symm,hbel.output.trans s.below.output.symm,hsize,fun j hj=>hblock j (s.env.m j hj) (fun e=>hMk (e ▸ hj)),fun j hj hW=>(hbel.block j hj hW).trans (s.below.block j hj hW).symm⟩
  refine ⟨?_,?_,fun x=>?_,fun x bx hx=>?_,⟨fun j hj=>Nat.lt_of_lt_of_le (s.env.m j hj) hsize,fun x j hx=>?_,fun x y j hx hy=>?_⟩,?_,fun x j hx0 hx=>?_,fun x hx=>?_,s.m,fun x hx=>?_,fun x j hx0 hx=>?_,s.gh.same hsame⟩
  · cases dst with
    | none=>exact s.size
    | some d=>simpa [Act.put] using s.size
  · cases dst with
    | none=>exact s.defers.same hsame
    | some d=>exact s.defers.same hsame
  · have hold:RV (E.add b k) w' (kill b (st.t x)) (a.tmps.getD x undef):=hkeep.rv (kill_R (s.slots x))
    cases dst with
    | none=>exact hold
    | some d =>
      show RV _ _ (upd (fun x=>kill b (st.t x)) d (.one (.gr b sz (n+m) c')) x) _
      rw [upd_eq]
      split
      · rename_i e;subst e
        have hlt:x < a.tmps.size:=by rw [s.size];exact hd x rfl
        have:(a.put (some x) v').tmps.getD x undef=v':=by simp [Act.put,Array.getD_eq_getD_getElem?,hlt]
        rw [this,hv]
        exact ⟨rfl,.inr ⟨k,haddb,rfl⟩⟩
      · rename_i e
        have:(a.put (some d) v').tmps.getD x undef=a.tmps.getD x undef:=by simp [Act.put,Array.getD_eq_getD_getElem?,Array.getElem?_setIfInBounds_ne (fun h=>e h.symm)]
        rw [this];exact hold
  · have hx:hupd (fun x=>(st.h x).map (killBox b)) b ⟨sz,c',fun i=>if i < n then g i else if i < n+m then g' (i - n) else List.replicate sz .u,true⟩ x=some bx:=hx
    rw [hupd_eq] at hx
    by_cases e:x=b
    · rw [if_pos e] at hx
      obtain rfl:=Option.some.inj hx
      rw [e]
      refine .inr ⟨k,cur,T,haddb,hk,hcs,fun i hi=>?_⟩
      obtain ⟨es,q1,q2,q3⟩:=hel i hi
      exact ⟨es,q1,unshutl (hshut.leaves q2),q3⟩
    · rw [if_neg e] at hx
      simp only [Option.map_eq_some_iff] at hx
      obtain ⟨bx1,hx2,rfl⟩:=hx
      rcases s.boxes x bx1 hx2 with g0|⟨kx,cx,Tx,g1,g2,g3,g4⟩
      · exact .inl g0
      have hkx:kx≠k:=fun e'=>hfresh x e (e' ▸ g1)
      refine .inr ⟨kx,cx,Tx,(hadd x e).trans g1,(hblock kx (s.env.r _ _ g1) hkx).trans g2,g3,fun i hi=>?_⟩
      obtain ⟨es,g5,g6,g7⟩:=g4 i hi
      exact ⟨es,by simp only [killBox,sizes_kill];exact g5,hkeep.leaves (killLs_R g6),g7⟩
  · by_cases e:x=b
    · subst e;rw [haddb] at hx;cases hx;exact hkw
    · rw [hadd x e] at hx;exact Nat.lt_of_lt_of_le (s.env.r _ _ hx) hsize
  · by_cases e:x=b <;> by_cases e':y=b
    · rw [e,e']
    · subst e;rw [haddb] at hx;cases hx;rw [hadd y e'] at hy;exact absurd hy (hfresh y e')
    · subst e';rw [haddb] at hy;cases hy;rw [hadd x e] at hx;exact absurd hx (hfresh x e)
    · rw [hadd x e] at hx;rw [hadd y e'] at hy;exact s.env.inj _ _ _ hx hy
  · exact hbel
  · by_cases e:x=b
    · subst e;rw [haddb] at hx;cases hx
      rcases hw with hw|hw
      · exact .inl (Nat.le_trans s.below.size hw.1)
      · exact s.own x k hx0 hw.1
    · rw [hadd x e] at hx;exact s.own x j hx0 hx
  · have:x≠b:=by omega
    rw [hadd x this];exact s.low x hx
  · have hx:(match Nat.ble st.nb b with|true=>b+1|false=>st.nb)≤x:=hx
    have hxb:x≠b∧st.nb≤x:=by
      cases e:Nat.ble st.nb b with
      | true=>rw [e] at hx;have hx:b+1≤x:=hx;have:=Nat.le_of_ble_eq_true e;exact ⟨by omega,by omega⟩
      | false =>
        rw [e] at hx
        have hx:st.nb≤x:=hx
        have:¬st.nb≤b:=fun h=>by rw [Nat.ble_eq_true_of_le h] at e;cases e
        exact ⟨by omega,hx⟩
    rw [hadd x hxb.1];exact s.free x hxb.2
  · by_cases e:x=b
    · subst e;rw [haddb] at hx;cases hx;exact hMk
    · rw [hadd x e] at hx;exact s.ownM x j hx0 hx
theorem madeCells_like {z:Array Value} {sz:Nat} (hz:z.size=sz) (m:Nat):(Builtin.zeroCells z m).size=m*sz:=by rw [size_zeroCells,hz]
theorem zeroCells_one {z:Array Value} (h:∀v∈z,v.oneCell'=true) (m:Nat):∀v∈Builtin.zeroCells z m,v.oneCell'=true:=by
  intro v hv
  simp only [Builtin.zeroCells] at hv
  simp only [Array.mem_map,Array.mem_range] at hv
  obtain ⟨p,h1,rfl⟩:=hv
  have hp:0 < z.size:=by
    rcases Nat.eq_zero_or_pos z.size with h0|h0
    · rw [h0] at h1;omega
    · exact h0
  rw [getElem!_pos z _ (Nat.mod_lt _ hp)]
  exact h _ (Array.getElem_mem _)
theorem app_step (hc:CtxOk c) {E:Env} {a:Act} {w:World} (s:SR c st E a w) (dst:Option Tmp) (hd:∀d,dst=some d→d < c.N) {T ty:TypeId} {ti te:TyI} (ht:tyI c.P T=some ti) {e sz:Nat} (hk:ti.kind= .slice e sz) (hte:tyI c.P e=some te) {zs:List Value} (hz:te.zero=some zs)
    (hz1:zs.all (·.oneCell')=true) (hzl:zs.length=sz) (hsz:0 < sz) (b n cc m:Nat) (g g':Nat→List Leaf) (hb:c.nb0≤b) {vx vy:Value} (hx:RV E w (.one (.gr b sz n cc)) vx) (hn:n≤cc) (hbox:(n=0∧cc=0)∨∃ro,st.h b=some ⟨sz,cc,g,ro⟩)
    (hg:∀i,i < n→clL 0 (g i)) (hy:RV E w (.one (.row sz m g')) vy) (hm:0 < m) (h63:n+m≤maxLen) (hbytes:(n+m)*te.bytes≤140737488355328) :
    ∃c' v' w' E',n+m≤c'∧(Builtin.append_ #[T,T] ty #[vx,vy]).run c.P w= .ok v' w'∧SR c (st.app dst b sz n m c' g g') E' (a.put dst v') w':=by
  obtain ⟨hT,hcell⟩:=tyI_slice ht hk
  obtain ⟨ie,de,hie,hde,his,hib,_,hiz⟩:=tyI_spec hte
  obtain ⟨ie',hie',hse⟩:=cellsOf_info (P:=c.P) (t:=e) (by omega)
  rw [hie] at hie';cases hie'
  have hsize:ie.size=sz:=by rw [hse,hcell]
  rw [hz] at hiz
  obtain ⟨z,hzv,hzc⟩:∃z,ie.zero=some z∧z.cells.toList=zs:=by
    cases h:ie.zero with
    | none=>rw [h] at hiz;cases hiz
    | some z=>rw [h] at hiz;simp at hiz;exact ⟨z,rfl,hiz.symm⟩
  have hzs:z.cells.size=sz:=by rw [←hzl,←hzc];simp
  have hz1':∀v∈z.cells,v.oneCell'=true:=fun v hv=>by
    simp only [List.all_eq_true] at hz1
    exact hz1 v (by rw [←hzc];simpa using hv)
  obtain ⟨b',o',c1,news,rfl,hl,hnews,hok',hel'⟩:=row_news hy hm
  have h1n:∀u∈news,u.oneCell'=true:=fun u hu=>by
    obtain ⟨j,hj,rfl⟩:=List.getElem_of_mem hu
    have hjm:j / sz < m:=by rw [Nat.div_lt_iff_lt_mul hsz];omega
    obtain ⟨es,_,q2,q3,q4⟩:=hel' (j / sz) hjm
    have hr:j%sz < es.length:=by rw [q3];exact Nat.mod_lt _ hsz
    have:=q4 (j%sz) es[j%sz] (List.getElem?_eq_getElem hr)
    rw [show j / sz*sz+j%sz=j by rw [Nat.mul_comm];exact Nat.div_add_mod j sz,List.getElem?_eq_getElem hj] at this
    rw [Option.some.inj this]
    exact (LeavesR_len q2).2 _ (List.getElem_mem hr)
  have hnews':∀j u,news[j]?=some u→w.cell? ((⟨b',o',none⟩:Addr).add j)=some u:=fun j u hu=>by rw [Addr.add_mid];exact hnews j u hu
  subst hsize
  have hel2:∀i,n≤i→i < n+m→∃es,sizes (g' (i - n))=ie.size∧LeavesR E.shut w (g' (i - n)) es∧∀j v,es[j]?=some v→news[(i - n)*ie.size+j]?=some v:=fun i h1 h2=>by
    obtain ⟨es,q1,q2,_,q3⟩:=hel' (i - n) (by omega)
    exact ⟨es,q1,q2,q3⟩
  have hmul:∀i j m',j < ie.size→i < m'→i*ie.size+j < m'*ie.size:=fun i j m' h1 h2=>by
    have:(i+1)*ie.size≤m'*ie.size:=Nat.mul_le_mul_right _ h2
    rw [Nat.add_mul] at this;omega
  -- a new block
  have grown:∀(old:Nat) (olds:List Value),old < n+m→olds.length=n*ie.size→(∀i,i < n→∃es,sizes (g i)=ie.size∧LeavesR E.shut w (g i) es∧∀j v,es[j]?=some v→olds[i*ie.size+j]?=some v)→
      SR c (st.app dst b ie.size n m (grownCap w (n+m) old e) g g') (E.add b w.heap.size) (a.put dst (.slice (some ⟨w.heap.size,0,none⟩) (n+m) (grownCap w (n+m) old e)))
        (w.drew.alloc (.cells (olds.toArray++news.toArray++Builtin.zeroCells z.cells (grownCap w (n+m) old e - (n+m))) e)):=by
    intro old olds ho hol hels
    have hge:=grownCap_ge w (n+m) old e
    refine app_sr s hb (.inl ⟨Nat.le_refl _,by simp,⟨rfl,rfl,rfl,by simp,fun k hk=>heap_alloc_old w.drew _ hk⟩⟩) rfl (heap_alloc_new w.drew _) ?_ hge (fun i hi=>?_) hc hd
    · refine Nat.le_of_eq (Eq.symm ?_)
      simp only [Array.size_append,List.size_toArray,size_zeroCells,hzs,hol,hl,←Nat.add_mul]
      congr 1;omega
    · have hget:∀p,(olds.toArray++news.toArray++Builtin.zeroCells z.cells (grownCap w (n+m) old e - (n+m)))[p]?=if p < n*ie.size then olds[p]? else if p < (n+m)*ie.size then news[p - n*ie.size]? else (Builtin.zeroCells z.cells (grownCap w (n+m) old e - (n+m)))[p - (n+m)*ie.size]?:=by
        intro p
        have hs2:(olds.toArray++news.toArray).size=(n+m)*ie.size:=by simp [hol,hl,Nat.add_mul]
        rw [Array.getElem?_append,hs2,Array.getElem?_append]
        simp only [List.size_toArray,hol,List.getElem?_toArray]
        by_cases h1:p < n*ie.size
        · have:p < (n+m)*ie.size:=by rw [Nat.add_mul];omega
          simp [h1,this]
        · simp [h1]
      by_cases h1:i < n
      · obtain ⟨es,q1,q2,q3⟩:=hels i h1
        rw [if_pos h1]
        refine ⟨es,q1,q2,fun j v hv=>?_⟩
        have hj:j < ie.size:=by have:=(List.getElem?_eq_some_iff.1 hv).1;have:=(LeavesR_len q2).1;omega
        rw [hget,if_pos (hmul i j n hj h1)]
        exact q3 j v hv
      · rw [if_neg h1]
        by_cases h2:i < n+m
        · obtain ⟨es,q1,q2,q3⟩:=hel2 i (by omega) h2
          rw [if_pos h2]
          refine ⟨es,q1,q2,fun j v hv=>?_⟩
          have hj:j < ie.size:=by have:=(List.getElem?_eq_some_iff.1 hv).1;have:=(LeavesR_len q2).1;omega
          have hge':n*ie.size≤i*ie.size:=Nat.mul_le_mul_right _ (by omega)
          rw [hget,if_neg (by omega),if_pos (hmul i j (n+m) hj h2)]
          have:=q3 j v hv
          rw [←this];congr 1;rw [Nat.sub_mul];omega
        · rw [if_neg h2]
          have hzc1:=zeroCells_one hz1' (grownCap w (n+m) old e - (n+m))
          have hge':(n+m)*ie.size≤i*ie.size:=Nat.mul_le_mul_right _ (by omega)
          have hszc:=madeCells_like hzs (grownCap w (n+m) old e - (n+m))
          have hlen:(((Builtin.zeroCells z.cells (grownCap w (n+m) old e - (n+m))).toList.drop (i*ie.size - (n+m)*ie.size)).take ie.size).length=ie.size:=by
            rw [List.length_take,List.length_drop,Array.length_toList,hszc]
            have h5:(i+1)*ie.size≤grownCap w (n+m) old e*ie.size:=Nat.mul_le_mul_right _ hi
            rw [Nat.add_mul] at h5
            rw [Nat.sub_mul];omega
          refine ⟨_,sizes_us _,LeavesR_us ie.size _ hlen (fun v hv=>hzc1 v (by have:=List.mem_of_mem_drop (List.mem_of_mem_take hv);simpa using this)),fun j v hv=>?_⟩
          have hj:j < ie.size:=by have:=(List.getElem?_eq_some_iff.1 hv).1;omega
          rw [List.getElem?_take,if_pos hj,List.getElem?_drop] at hv
          rw [hget,if_neg (by rw [Nat.add_mul] at hge';omega),if_neg (by omega),←hv,Array.getElem?_toList]
          congr 1;omega
  have hE:E.ρ b=none∨∃k,E.ρ b=some k:=by cases E.ρ b <;> simp
  obtain ⟨_,hx⟩:=hx
  have hsm:((n+m:Nat):Int)≤9223372036854775807:=by simp only [maxLen] at h63;omega
  rcases hx with ⟨rfl,rfl,hx|⟨k,ok,hx,_⟩⟩|⟨k,hρ,hx⟩
  · simp only [List.cons.injEq,and_true] at hx
    subst hx
    have hr:=run_append_nil (P:=c.P) w T ty e ie z hT hie hzv ⟨b',o',none⟩ m c1 news hl hnews' hm (by omega) (by rw [hib];rw [Nat.zero_add] at hbytes;omega)
    have:=grown 0 [] (by omega) (by simp) (fun i hi=>by omega)
    simp only [Nat.zero_add,Array.empty_append] at this
    exact ⟨grownCap w m 0 e,_,_,_,by have:=grownCap_ge w m 0 e;omega,hr,by simpa using this⟩
  · simp only [List.cons.injEq,and_true] at hx
    subst hx
    have hr:=run_append_grow (P:=c.P) w T ty e ie z hT hie hzv ⟨k,ok,none⟩ 0 0 [] (by simp) (fun j u h=>by simp at h) ⟨b',o',none⟩ m c1 news hl hnews' (by omega) hsm (growslice_fits (by omega) (by rw [hib];exact hbytes))
    exact ⟨_,_,_,_,grownCap_ge w (0+m) 0 e,hr,grown 0 [] (by omega) (by simp) (fun i hi=>by omega)⟩
  · simp only [List.cons.injEq,and_true] at hx
    subst hx
    by_cases hroom:n+m≤cc
    · rcases hbox with ⟨rfl,rfl⟩|⟨ro,hbox⟩
      · omega
      rcases s.boxes b _ hbox with ⟨_,h0⟩|⟨k',cur,Tb,g1,g2,g3,g4⟩
      · have:cc=0:=h0
        omega
      rw [hρ] at g1;cases g1
      have g3:cc*ie.size≤cur.size:=g3
      have hfit:(n+m)*ie.size≤cur.size:=Nat.le_trans (Nat.mul_le_mul_right _ hroom) g3
      have hr:=run_append_room_cells (P:=c.P) w T ty e ie hT hie k 0 n cc ⟨b',o',none⟩ m c1 news hl hnews' h1n hroom
        (fun j hj => by rw [cell_of_row w k _ cur Tb (0, 0) g2]; have : 0 + n * ie.size + j < cur.size := by rw [Nat.add_mul] at hfit; omega
                        rw [Array.getElem?_eq_getElem this];rfl) (fun j hj=>frozen_of_row w k _ cur Tb g2)
      refine ⟨cc,_,_,E.add b k,hroom,hr,?_⟩
      have hw:=wrote_setCells news w k (0+n*ie.size)
      refine app_sr s hb (.inr ⟨hρ,hw⟩) rfl (heap_setCells_same _ g2 _) (by rw [setRange_size];exact g3) hroom (fun i hi=>?_) hc hd
      have hget:∀p,p < cur.size→(setRange cur (0+n*ie.size) news)[p]?=if n*ie.size≤p∧p < (n+m)*ie.size then news[p - n*ie.size]? else cur[p]?:=by
        intro p hp
        rw [setRange_get,Nat.zero_add,hl]
        by_cases h:n*ie.size≤p∧p < (n+m)*ie.size
        · rw [if_pos h,if_pos ⟨h.1,by have:=h.2;rw [Nat.add_mul] at this;omega,hp⟩]
        · rw [if_neg h,if_neg (fun h'=>h ⟨h'.1,by rw [Nat.add_mul];omega⟩)]
      have hcell:∀j,j < ie.size→i*ie.size+j < cur.size:=fun j hj=>Nat.lt_of_lt_of_le (hmul i j cc hj hi) g3
      by_cases h1:i < n
      · rw [if_pos h1]
        obtain ⟨es,q1,q2,q3⟩:=g4 i hi
        have q1:sizes (g i)=ie.size:=q1
        have q2:LeavesR E w (g i) es:=q2
        refine ⟨es,q1,(into_shut E w).leaves (hg i h1) q2,fun j v hv=>?_⟩
        have hj:j < ie.size:=by have:=(List.getElem?_eq_some_iff.1 hv).1;have:=(LeavesR_len q2).1;omega
        rw [hget _ (hcell j hj),if_neg (fun h=>by have:=hmul i j n hj h1;omega)]
        exact q3 j v hv
      · rw [if_neg h1]
        by_cases h2:i < n+m
        · obtain ⟨es,q1,q2,q3⟩:=hel2 i (by omega) h2
          rw [if_pos h2]
          refine ⟨es,q1,q2,fun j v hv=>?_⟩
          have hj:j < ie.size:=by have:=(List.getElem?_eq_some_iff.1 hv).1;have:=(LeavesR_len q2).1;omega
          have hge':n*ie.size≤i*ie.size:=Nat.mul_le_mul_right _ (by omega)
          rw [hget _ (hcell j hj),if_pos ⟨by omega,hmul i j (n+m) hj h2⟩]
          have:=q3 j v hv
          rw [←this];congr 1;rw [Nat.sub_mul];omega
        · rw [if_neg h2]
          obtain ⟨es,q1,q2,q3⟩:=g4 i hi
          have q1:sizes (g i)=ie.size:=q1
          have q2:LeavesR E w (g i) es:=q2
          have hes:=LeavesR_len q2
          have hge':(n+m)*ie.size≤i*ie.size:=Nat.mul_le_mul_right _ (by omega)
          refine ⟨es,sizes_us _,LeavesR_us ie.size _ (by omega) hes.2,fun j v hv=>?_⟩
          have hj:j < ie.size:=by have:=(List.getElem?_eq_some_iff.1 hv).1;omega
          rw [hget _ (hcell j hj),if_neg (fun h=>by omega)]
          exact q3 j v hv
    · have holds:∃olds:List Value,olds.length=n*ie.size∧(∀j u,olds[j]?=some u→w.cell? ((⟨k,0,none⟩:Addr).add j)=some u)∧∀i,i < n→∃es,sizes (g i)=ie.size∧LeavesR E.shut w (g i) es∧∀j v,es[j]?=some v→olds[i*ie.size+j]?=some v:=by
        by_cases h0:n=0
        · subst h0;exact ⟨[],by simp,(fun j u h=>by simp at h),fun i hi=>by omega⟩
        rcases hbox with ⟨rfl,_⟩|⟨ro,hbox⟩
        · omega
        rcases s.boxes b _ hbox with ⟨_,h0⟩|⟨k',cur,Tb,g1,g2,g3,g4⟩
        · have:cc=0:=h0
          omega
        rw [hρ] at g1;cases g1
        have g3:cc*ie.size≤cur.size:=g3
        have hle:n*ie.size≤cc*ie.size:=Nat.mul_le_mul_right _ hn
        refine ⟨cur.toList.take (n*ie.size),by rw [List.length_take,Array.length_toList];omega,fun j u hu=>?_,fun i hi=>?_⟩
        · rw [Addr.add_mid,cell_of_row w k _ cur Tb (0,0) g2,Nat.zero_add]
          rw [List.getElem?_take] at hu
          split at hu
          · simpa using hu
          · cases hu
        · obtain ⟨es,q1,q2,q3⟩:=g4 i (by show i < cc;omega)
          have q1:sizes (g i)=ie.size:=q1
          have q2:LeavesR E w (g i) es:=q2
          refine ⟨es,q1,(into_shut E w).leaves (hg i hi) q2,fun j v hv=>?_⟩
          have hj:j < ie.size:=by have:=(List.getElem?_eq_some_iff.1 hv).1;have:=(LeavesR_len q2).1;omega
          rw [List.getElem?_take,if_pos (hmul i j n hj hi),Array.getElem?_toList]
          exact q3 j v hv
      obtain ⟨olds,q1,q2,q3⟩:=holds
      have hr:=run_append_grow (P:=c.P) w T ty e ie z hT hie hzv ⟨k,0,none⟩ n cc olds q1 q2 ⟨b',o',none⟩ m c1 news hl hnews' (by omega) hsm (growslice_fits (by omega) (by rw [hib];exact hbytes))
      exact ⟨_,_,_,_,grownCap_ge w (n+m) cc e,hr,grown cc olds (by omega) q1 q3⟩
def appOf (o:Oper):Option (Operand×Operand×TypeId):=match o.op with
  | .call cl => match cl.callee, cl.args.toList, cl.argTypes.toList with
    | .builtin .append, [x, y], [T, T'] => match Nat.beq T T' with
      | true=>some (x,y,T)
      | false=>none
    | _,_,_=>none
  | _=>none
def sliceOf (tt:TypeId→Option TyI) (T:TypeId):Option (Nat×Nat×List Value):=match tt T with
  | some ti => match ti.kind with
    | .slice e sz => match tt e with
      | some te => match te.zero with
        | some zs => match zs.all (·.oneCell'), Nat.beq zs.length sz, Nat.ble 1 sz with
          | true,true,true=>some (sz,te.bytes,zs)
          | _,_,_=>none
        | none=>none
      | none=>none
    | _=>none
  | none=>none
theorem appOf_spec {o:Oper} {x y:Operand} {T:TypeId} (h:appOf o=some (x,y,T)):o.op= .call { callee:=.builtin .append,args:=#[x,y],argTypes:=#[T,T] }:=by
  unfold appOf at h
  split at h
  · rename_i cl ho
    obtain ⟨f,args,ats⟩:=cl
    dsimp only at h
    split at h
    · rename_i x' y' T1 T2 ha hat
      split at h
      · rename_i e
        cases h
        have e1:args=#[x,y]:=by rw [←Array.toList_inj];exact ha
        have e2:ats=#[T,T2]:=by rw [←Array.toList_inj];exact hat
        rw [ho,e1,e2,←Nat.eq_of_beq_eq_true e]
      · cases h
    · cases h
  · cases h
theorem sliceOf_spec {tt:TypeId→Option TyI} {T:TypeId} {sz bytes:Nat} {zs:List Value} (h:sliceOf tt T=some (sz,bytes,zs)):∃ti e te,tt T=some ti∧ti.kind= .slice e sz∧tt e=some te∧te.zero=some zs∧te.bytes=bytes∧zs.all (·.oneCell')=true∧zs.length=sz∧0 < sz:=by
  unfold sliceOf at h
  split at h
  · rename_i ti ht
    split at h
    · rename_i e sz' hk
      split at h
      · rename_i te hte
        split at h
        · rename_i zs' hz
          split at h
          · rename_i h1 h2 h3
            cases h
            exact ⟨ti,e,te,ht,hk,hte,hz,rfl,h1,Nat.eq_of_beq_eq_true h2,Nat.le_of_ble_eq_true h3⟩
          · cases h
        · cases h
      · cases h
    · cases h
  · cases h
theorem outK_app {ops:Array Oper} {K:St→Prop} {ps:List Prop} {o:Oper} {rest:List Oper} {sh:List Sh} (hc:CtxOk c) (b n cc m:Nat) (g g':Nat→List Leaf) {x y:Operand} {T:TypeId} {sz bytes:Nat} {zs:List Value}
    (ho:appOf o=some (x,y,T)) (ht:sliceOf c.tt T=some (sz,bytes,zs)) (hb:c.nb0≤b) (hx:Sub (evAt st.t x) (.one (.gr b sz n cc))) (hy:Sub (evAt st.t y) (.one (.row sz m g'))) (hn:n≤cc)
    (hbox:(n=0∧cc=0)∨∃ro,st.h b=some ⟨sz,cc,g,ro⟩) (hg:∀i,i < n→clL 0 (g i)) (hm:0 < m) (h63:n+m≤9223372036854775807) (hbytes:(n+m)*bytes≤140737488355328) (hp:AllP ps)
    (h:∀c',n+m≤c'→OutK c.P c.G c.ns ops (HandS c ops K) (absGo c.tt c.ns ops rest (st.app o.dst b sz n m c' g g') [] []) fun st' _=>K st'):OutK c.P c.G c.ns ops (HandS c ops K) (.hand ps o rest st sh) fun st' _=>K st':=by
  refine outK_other hp ?_
  intro k hnb hk hr hlen hok nn ro Q' hQ E a w s hw
  have hop:=appOf_spec ho
  obtain ⟨ti,e,te,q1,q2,q3,q4,q5,q6,q7,q8⟩:=sliceOf_spec ht
  subst q5
  obtain ⟨⟨g1,hdf⟩,g2,g3⟩:=hok o (by simp)
  have hev:∀z∈o.op.operands,RV E w (evAt st.t z) (a.eval z):=fun z hz=>evAt_sound s.slots z (g2 z hz)
  have hvx:=hx _ _ _ (hev x (by rw [hop];simp [Op.operands,Call.operands]))
  have hvy:=hy _ _ _ (hev y (by rw [hop];simp [Op.operands,Call.operands]))
  obtain ⟨c',v',w',E',r1,r2,r3⟩:=app_step hc s o.dst g1 (ty:=o.type) (hc.tt _ _ q1) q2 (hc.tt _ _ q3) q4 q6 q7 q8 b n cc m g g' hb hvx hn hbox hg hvy hm (by unfold maxLen;exact h63) hbytes
  rw [List.range'_succ,wpOpsIn_cons]
  unfold wpOpIn
  rw [hk]
  dsimp only
  rw [hw]
  simp only [if_true]
  refine wpIn_open hdf ?_
  unfold execOp
  simp only [hop,resolve,invoke,builtin,Sem.run_bind,Sem.run_pure,Result.andThen_ok,List.map_toArray,List.map_cons,List.map_nil,r2]
  have h:=(absGo_sound hc.tt _ _ _ _ (h c' r1)).2
  refine seq_runK hc h (fun j=>hr j) (by omega) ?_ (fun o' ho'=>hok o' (by simp [ho'])) Q' hQ E' _ w' r3
  show c.nb0≤(match Nat.ble st.nb b with|true=>b+1|false=>st.nb)
  cases Nat.ble st.nb b with
  | true=>show c.nb0≤b+1;omega
  | false=>exact hnb
/-! ## What may be appended to, what may be appended -/
theorem sub_nil_gr {b sz:Nat}:Sub (.one (.v (.slice none 0 0))) (.one (.gr b sz 0 0)):=by
  rintro E w v ⟨_,h,_⟩
  exact ⟨rfl,.inl ⟨rfl,rfl,.inl h⟩⟩
theorem sub_own_gr {b sz n cc:Nat}:Sub (.one (.own b sz 0 n cc)) (.one (.gr b sz n cc)):=by
  rintro E w v ⟨_,k,h,h1⟩
  exact ⟨rfl,.inr ⟨k,h,by simpa using h1⟩⟩
theorem sub_gr_eq {b sz n cc n' cc':Nat} (h:n=n') (h':cc=cc'):Sub (.one (.gr b sz n cc)) (.one (.gr b sz n' cc')):=h ▸ h' ▸ Sub.refl _
-- axioms of outK_app
end Go.Ax
end
