/- Lemmas on the program and its library, part 11. -/
import Derived.Test.YtoiejgkkcfkliaaGreatDoorZ09
set_option linter.unusedVariables false
set_option linter.unusedSimpArgs false
section
namespace Go.Ax
theorem ite00 {α:Type} {a b:α}:(if (0:Nat)=0 then a else b)=a:=rfl
theorem boxesOk_one {nb b sz:Nat} {g g':Nat→List Leaf} {ro ro':Bool} {r:List (Nat×Option Box×Box)} (h0:Nat.ble (b+1) nb=true) (hcl:clL nb (g' 0)) (h:SubLv (g 0) (g' 0)) (h3:BoxesOk nb r):BoxesOk nb ((b,some ⟨sz,1,g,ro⟩,⟨sz,1,g',ro'⟩) :: r):=
  ⟨⟨h0,.inr ⟨_,rfl,rfl,Nat.le_refl _,(fun _=>.inr Nat.zero_lt_one),fun i hi=>by
    obtain rfl:i=0:=by have:i < 1:=hi;omega
    exact ⟨h,hcl⟩⟩⟩,h3⟩
def zl (z:Int):Nat:=(digs BB z.natAbs).length
theorem zl_le {z:Int} {k:Nat} (h:z.natAbs < BB ^ k):zl z≤k:=digs_len_le (by decide) h
theorem zl_lt (z:Int):z.natAbs < BB ^ zl z:=digs_lt (by decide)
theorem zl_neg (z:Int):zl (-z)=zl z:=by unfold zl;rw [Int.natAbs_neg]
theorem zl_zero:zl 0=0:=rfl
theorem zl_small {z:Int} (h:z.natAbs < BB):zl z≤1:=zl_le (by rw [Nat.pow_one];exact h)
theorem zl_mono {x y:Int} (h:x.natAbs≤y.natAbs):zl x≤zl y:=zl_le (Nat.lt_of_le_of_lt h (zl_lt y))
theorem zl_add (x y:Int):zl (x+y)≤max (zl x) (zl y)+1:=by
  refine zl_le ?_
  have h1:=Nat.lt_of_lt_of_le (zl_lt x) (Nat.pow_le_pow_right (show 0 < BB by decide) (Nat.le_max_left (zl x) (zl y)))
  have h2:=Nat.lt_of_lt_of_le (zl_lt y) (Nat.pow_le_pow_right (show 0 < BB by decide) (Nat.le_max_right (zl x) (zl y)))
  have h3:=Int.natAbs_add_le x y
  have h4:BB ^ max (zl x) (zl y)*2≤BB ^ max (zl x) (zl y)*BB:=Nat.mul_le_mul_left _ (by decide)
  rw [Nat.pow_succ]
  generalize BB ^ max (zl x) (zl y)=p at *
  generalize p*BB=q at *
  omega
theorem zl_mul (x y:Int):zl (x*y)≤zl x+zl y:=by
  refine zl_le ?_
  rw [Int.natAbs_mul,Nat.pow_add]
  exact Nat.mul_lt_mul'' (zl_lt x) (zl_lt y)
abbrev smA (z:Int):AV:=.agg [.v (.int .i64 z),.v (.slice none 0 0)]
abbrev bgA (z:Int):AV:=.agg [.v (.int .i64 (if z < 0 then -1 else 1)),.nn .u64 (toI (digs BB z.natAbs))]
abbrev intA (z:Int):AV:=.agg [.int z]
theorem sub_sm {z:Int} (h1:-9223372036854775808≤z) (h2:z < 9223372036854775808):Sub (smA z) (intA z):=by
  rintro E w v ⟨cs,hv,xs,ys,rfl,⟨rfl,_⟩,xs',ys',rfl,⟨rfl,_⟩,rfl⟩
  exact ⟨_,hv,_,[],by simp,.inl ⟨rfl,h1,h2⟩,rfl⟩
theorem intsR_big {E:Env} {w:World} {z:Int} {x:Value} (h:9223372036854775808≤z.natAbs) (hx:NnR E w .u64 (toI (digs BB z.natAbs)) x):IntR E w z [.int .i64 (if z < 0 then -1 else 1),x]:=by
  obtain ⟨b,o,c,rfl,h1,h2,h3⟩:=hx
  have hd:=digs_dig (B:=BB) (by decide) z.natAbs
  refine .inr ⟨digs BB z.natAbs,b,o,c,by simp,h1,by simpa using h2,by rw [List.map_map] at h3;exact h3,hd.lt,fun e=>?_,hd.last,digs_val (by decide) _,h⟩
  rw [digs_nil (by decide)] at e
  omega
theorem sub_bg {z:Int} (h:9223372036854775808≤z.natAbs):Sub (bgA z) (intA z):=by
  rintro E w v ⟨cs,hv,xs,ys,rfl,⟨rfl,_⟩,xs',ys',rfl,⟨x,rfl,hx⟩,rfl⟩
  exact ⟨_,hv,_,[],by simp,intsR_big h hx,rfl⟩
theorem sub_bg' {z s:Int} (h:9223372036854775808≤z.natAbs) (hs:s=if z < 0 then -1 else 1) {ds:List Int} (hds:ds=toI (digs BB z.natAbs)):Sub (.agg [.v (.int .i64 s),.ints .u64 ds]) (intA z):=by
  subst hs hds
  rintro E w v ⟨cs,hv,xs,ys,rfl,⟨rfl,_⟩,xs',ys',rfl,⟨x,rfl,hx⟩,rfl⟩
  refine ⟨_,hv,_,[],(List.append_nil _).symm,intsR_big h ?_,rfl⟩
  rcases hx with ⟨hx,_⟩|hx
  · exfalso
    have:digs BB z.natAbs= []:=by simpa using hx
    rw [digs_nil (by decide)] at this
    omega
  · exact hx
theorem int_cases {E:Env} {w:World} {z:Int} {v:Value} (h:RV E w (intA z) v):((-9223372036854775808≤z∧z < 9223372036854775808)∧RV E w (smA z) v)∨(9223372036854775808≤z.natAbs∧RV E w (bgA z) v):=by
  obtain ⟨cs,hv,xs,ys,rfl,h1,rfl⟩:=h
  rw [List.append_nil] at hv
  rcases h1 with ⟨rfl,h2,h3⟩|⟨ds,b,o,c,rfl,h2,h3,h4,h5,h6,h7,h8,h9⟩
  · exact .inl ⟨⟨h2,h3⟩,_,hv,_,_,rfl,⟨rfl,rfl⟩,_,_,rfl,⟨rfl,rfl⟩,rfl⟩
  · have e:digs BB z.natAbs=ds:=digs_of (by decide) ⟨h5,h7⟩ h8
    refine .inr ⟨h9,_,hv,[_],[_],rfl,⟨rfl,rfl⟩,[_],[],rfl,⟨_,rfl,b,o,c,?_,h2,?_,?_⟩,rfl⟩
    · rw [e];simp
    · rw [e];simpa using h3
    · rw [e,List.map_map];exact h4
theorem pure_int {P:Program} {G:World→Prop} {f:FuncId} (pre post:List AV) {z:Int} {r:AV} (hs:-9223372036854775808≤z→z < 9223372036854775808→Pure P G f (pre++smA z :: post) r)
    (hb:9223372036854775808≤z.natAbs→Pure P G f (pre++bgA z :: post) r):Pure P G f (pre++intA z :: post) r:=by
  refine pure_cases (ι:={ b:Bool // (b=true→-9223372036854775808≤z∧z < 9223372036854775808)∧(b=false→9223372036854775808≤z.natAbs) }) (fun b=>match b.1 with|true=>smA z|false=>bgA z) ?_ ⟨trivial,trivial⟩ (fun E w v h=>?_) fun b=>?_
  · by_cases h:-9223372036854775808≤z∧z < 9223372036854775808
    · exact ⟨⟨true,fun _=>h,fun e=>(by cases e)⟩⟩
    · exact ⟨⟨false,(fun e=>(by cases e)),fun _=>by omega⟩⟩
  · rcases int_cases h with ⟨h1,h2⟩|⟨h1,h2⟩
    · exact ⟨⟨true,fun _=>h1,fun e=>(by cases e)⟩,h2⟩
    · exact ⟨⟨false,(fun e=>(by cases e)),fun _=>h1⟩,h2⟩
  · obtain ⟨b,h1,h2⟩:=b
    cases b with
    | true=>exact hs (h1 rfl).1 (h1 rfl).2
    | false=>exact hb (h2 rfl)
theorem sub_nn {k:IntKind} {l:List Int}:Sub (.one (.nn k l)) (.one (.ints k l)):=by
  rintro E w v ⟨_,x,e,h⟩
  exact ⟨rfl,x,e,.inr h⟩
theorem sign_min (z:Int):(if -1 < (if z < 1 then z else 1) then (if z < 1 then z else 1) else -1)=z.sign:=by
  rcases Int.lt_trichotomy z 0 with h|h|h
  · have h1:z < 1:=by omega
    simp only [Int.sign_eq_neg_one_of_neg h,h1,if_true]
    split <;> omega
  · subst h;rfl
  · have h1:¬z < 1:=by omega
    simp only [Int.sign_eq_one_of_pos h,h1,if_false];rfl
theorem sign_big {z:Int} (h:9223372036854775808≤z.natAbs):(if z < 0 then -1 else 1:Int)=z.sign:=by
  by_cases h0:z < 0
  · rw [if_pos h0,Int.sign_eq_neg_one_of_neg h0]
  · rw [if_neg h0,Int.sign_eq_one_of_pos (by omega)]
theorem sign_sign (z:Int):z.sign.sign=z.sign:=by
  rcases Int.lt_trichotomy z 0 with h|h|h
  · rw [Int.sign_eq_neg_one_of_neg h];rfl
  · subst h;rfl
  · rw [Int.sign_eq_one_of_pos h];rfl
theorem cmp_le {m n:Nat} (h:0≤cmpN m n):n≤m:=by
  unfold cmpN at h
  rcases Nat.lt_or_ge m n with h1|h1
  · rw [if_pos h1] at h;omega
  · exact h1
theorem cmp_lt {m n:Nat} (h:¬0≤cmpN m n):m < n:=by
  unfold cmpN at h
  rcases Nat.lt_or_ge m n with h1|h1
  · exact h1
  · rw [if_neg (by omega)] at h
    split at h <;> omega
theorem dig_len {x y:List Nat} (hx:Dig BB x) (hy:Dig BB y) (h:val BB y≤val BB x):y.length≤x.length:=by
  rcases Nat.lt_or_ge x.length y.length with h1|h1
  · have:=cmp_len (by decide) hx hy h1;omega
  · exact h1
theorem divmod_pos {x y:Int} (hp:0 < y) (hx:0≤x):x / y=((x.natAbs / y.natAbs:Nat):Int)∧x%y=((x.natAbs%y.natAbs:Nat):Int):=by
  obtain ⟨a,rfl⟩:=Int.eq_ofNat_of_zero_le hx
  obtain ⟨b,rfl⟩:=Int.eq_ofNat_of_zero_le (Int.le_of_lt hp)
  exact ⟨rfl,rfl⟩
theorem divmod_neg {x y:Int} (hp:0 < y) (hx:x < 0):if x.natAbs%y.natAbs=0 then x / y= -((x.natAbs / y.natAbs:Nat):Int)∧x%y=0 else x / y= -((x.natAbs / y.natAbs:Nat):Int) - 1∧x%y= -((x.natAbs%y.natAbs:Nat):Int)+y:=by
  obtain ⟨a,ha⟩:∃a:Nat,x= -(a:Int):=⟨x.natAbs,by omega⟩
  obtain ⟨b,rfl⟩:=Int.eq_ofNat_of_zero_le (Int.le_of_lt hp)
  subst ha
  simp only [Int.natAbs_neg,Int.natAbs_natCast]
  have h1:=Nat.div_add_mod a b
  have h2:=Nat.mod_lt a (show 0 < b by omega)
  have h3:(a:Int)=b*((a / b:Nat):Int)+((a%b:Nat):Int):=by rw [←Int.natCast_mul,←Int.natCast_add,h1]
  generalize a / b=q at *
  generalize a%b=r at *
  split
  · rename_i h0
    subst h0
    exact (Int.ediv_emod_unique hp).2 ⟨by rw [h3];grind,by omega,by omega⟩
  · exact (Int.ediv_emod_unique hp).2 ⟨by rw [h3];grind,by omega,by omega⟩
theorem tdiv_sign {x y:Int} (hp:0 < y):x.tdiv y=(if x < 0 then -((x.natAbs / y.natAbs:Nat):Int) else ((x.natAbs / y.natAbs:Nat):Int))∧x.tmod y=(if x < 0 then -((x.natAbs%y.natAbs:Nat):Int) else ((x.natAbs%y.natAbs:Nat):Int)):=by
  obtain ⟨b,rfl⟩:=Int.eq_ofNat_of_zero_le (Int.le_of_lt hp)
  by_cases h:x < 0
  · obtain ⟨a,ha⟩:∃a:Nat,x= -(a:Int):=⟨x.natAbs,by omega⟩
    subst ha
    rw [if_pos h,if_pos h,Int.neg_tdiv,Int.neg_tmod,Int.natAbs_neg]
    exact ⟨rfl,rfl⟩
  · obtain ⟨a,rfl⟩:=Int.eq_ofNat_of_zero_le (show 0≤x by omega)
    rw [if_neg h,if_neg h]
    exact ⟨rfl,rfl⟩
theorem sign_lt {z:Int}:z.sign < 0↔z < 0:=by
  rcases Int.lt_trichotomy z 0 with h|h|h
  · rw [Int.sign_eq_neg_one_of_neg h];omega
  · subst h;decide
  · rw [Int.sign_eq_one_of_pos h];omega
theorem divmod_fix {x y:Int} (hp:0 < y) (h:(if decide (x < 0)=true then -((x.natAbs%y.natAbs:Nat):Int) else ((x.natAbs%y.natAbs:Nat):Int)).sign < 0) :
    (if decide (x < 0)=true then -((x.natAbs / y.natAbs:Nat):Int) else ((x.natAbs / y.natAbs:Nat):Int)) - 1=x / y∧(if decide (x < 0)=true then -((x.natAbs%y.natAbs:Nat):Int) else ((x.natAbs%y.natAbs:Nat):Int))+y=x%y:=by
  rw [sign_lt] at h
  by_cases hx:x < 0
  · have h1:=divmod_neg hp hx
    simp only [hx,decide_true,if_true] at h ⊢
    rw [if_neg (by omega)] at h1
    exact ⟨h1.1.symm,h1.2.symm⟩
  · simp only [hx,decide_false,Bool.false_eq_true,if_false] at h
    omega
theorem divmod_ok {x y:Int} (hp:0 < y) (h:¬(if decide (x < 0)=true then -((x.natAbs%y.natAbs:Nat):Int) else ((x.natAbs%y.natAbs:Nat):Int)).sign < 0) :
    (if decide (x < 0)=true then -((x.natAbs / y.natAbs:Nat):Int) else ((x.natAbs / y.natAbs:Nat):Int))=x / y∧(if decide (x < 0)=true then -((x.natAbs%y.natAbs:Nat):Int) else ((x.natAbs%y.natAbs:Nat):Int))=x%y:=by
  rw [sign_lt] at h
  by_cases hx:x < 0
  · have h1:=divmod_neg hp hx
    simp only [hx,decide_true,if_true] at h ⊢
    have h0:x.natAbs%y.natAbs=0:=by omega
    rw [if_pos h0] at h1
    rw [h0]
    exact ⟨h1.1.symm,by rw [h1.2];rfl⟩
  · have h1:=divmod_pos hp (show 0≤x by omega)
    simp only [hx,decide_false,Bool.false_eq_true,if_false]
    exact ⟨h1.1.symm,h1.2.symm⟩
theorem sign_zero {z:Int}:z.sign=0↔z=0:=by
  rcases Int.lt_trichotomy z 0 with h|h|h
  · rw [Int.sign_eq_neg_one_of_neg h];omega
  · subst h;decide
  · rw [Int.sign_eq_one_of_pos h];omega
theorem sub_intA {x z:Int} (h:x=z):Sub (intA x) (intA z):=h ▸ Sub.refl _
theorem sub_sm' {a z:Int} (e:a=z) (h1:-9223372036854775808≤z) (h2:z < 9223372036854775808):Sub (.agg [.v (.int .i64 a),.v (.slice none 0 0)]) (intA z):=by subst e;exact sub_sm h1 h2
theorem val_one {B:Nat} {ds:List Nat} (h:ds.length=1):val B ds=ds.getD 0 0:=by
  match ds,h with
  | [x],_=>simp [val]
theorem val_big {ds:List Nat} (hd:Dig BB ds) (h:2≤ds.length):BB≤val BB ds:=by
  have h1:=hd.lower (by decide) (by intro e;rw [e] at h;simp at h)
  have h2:=Nat.pow_le_pow_right (show 0 < BB by decide) (show 1≤ds.length - 1 by omega)
  rw [Nat.pow_one] at h2
  exact Nat.le_trans h2 h1
theorem and_one (k:Nat):IntKind.i64.wrap ((BitVec.ofInt IntKind.i64.bits (k:Int) &&& BitVec.ofInt IntKind.i64.bits 1).toNat:Int)=((k%2:Nat):Int):=by
  have e:(BitVec.ofInt IntKind.i64.bits (k:Int) &&& BitVec.ofInt IntKind.i64.bits 1).toNat=k%2:=by
    rw [BitVec.toNat_and]
    show (BitVec.ofInt 64 (k:Int)).toNat &&& (BitVec.ofInt 64 1).toNat=_
    rw [show (BitVec.ofInt 64 1).toNat=2 ^ 1 - 1 by decide,Nat.and_two_pow_sub_one_eq_mod,BitVec.toNat_ofInt]
    omega
  rw [e,IntKind.wrap_i64];omega
theorem shr_one (k:Nat):(k:Int).fdiv (2 ^ min 1 IntKind.i64.bits)=((k / 2:Nat):Int):=by
  rw [Int.fdiv_eq_ediv_of_nonneg _ (by decide)];rfl
/-! ## An integer in a variable: small or great -/
variable {c:Ctx} {Q:Exit→St→Prop} {st:St}
theorem sizes_app:∀(xs ys:List Leaf),sizes (xs++ys)=sizes xs+sizes ys
  | [],ys=>by simp [sizes]
  | x :: xs,ys=>by simp [sizes,sizes_app xs ys];omega
theorem hupd_same {h:Nat→Option Box} {b:Nat} {bx:Box}:hupd h b bx b=some bx:=by simp [hupd,Nat.beq_refl]
theorem hupd_other {h:Nat→Option Box} {b x:Nat} {bx:Box} (e:x≠b):hupd h b bx x=h x:=by
  unfold hupd
  cases e1:Nat.beq x b with
  | true=>exact absurd (Nat.eq_of_beq_eq_true e1) e
  | false=>rfl
theorem LeavesR_app {E:Env} {w:World}:∀{xs ys:List Leaf} {cs:List Value},LeavesR E w (xs++ys) cs↔∃as bs,cs=as++bs∧LeavesR E w xs as∧LeavesR E w ys bs
  | [],ys,cs=>⟨fun h=>⟨[],cs,rfl,rfl,h⟩,fun ⟨as,bs,h1,h2,h3⟩=>by obtain rfl:as= []:=h2;subst h1;exact h3⟩
  | x :: xs, ys, cs => by
    constructor
    · rintro ⟨us,vs,rfl,h1,h2⟩
      obtain ⟨as,bs,rfl,h3,h4⟩:=(LeavesR_app (xs:=xs)).1 h2
      exact ⟨us++as,bs,by simp,⟨us,as,rfl,h1,h3⟩,h4⟩
    · rintro ⟨as,bs,rfl,⟨us,vs,rfl,h1,h2⟩,h3⟩
      exact ⟨us,vs++bs,by simp,h1,(LeavesR_app (xs:=xs)).2 ⟨vs,bs,rfl,h2,h3⟩⟩
theorem leaves_int {E:Env} {w:World} {z:Int} {pre post:List Leaf} {cs:List Value} (h:LeavesR E w (pre++.int z :: post) cs) :
    ((-9223372036854775808≤z∧z < 9223372036854775808)∧LeavesR E w (pre++.v (.int .i64 z) :: .v (.slice none 0 0) :: post) cs)∨
    (9223372036854775808≤z.natAbs∧LeavesR E w (pre++.v (.int .i64 (if z < 0 then -1 else 1)) :: .nn .u64 (toI (digs BB z.natAbs)) :: post) cs):=by
  obtain ⟨as,bs,rfl,h1,us,vs,rfl,h2,h3⟩:=LeavesR_app.1 h
  have h4:RV E w (intA z) (.agg us.toArray):=⟨us,rfl,us,[],(List.append_nil _).symm,h2,rfl⟩
  rcases int_cases h4 with ⟨h5,ds,e,h6⟩|⟨h5,ds,e,h6⟩
  · have e:us=ds:=by simpa using e
    subst e
    exact .inl ⟨h5,LeavesR_app.2 ⟨as,us++vs,rfl,h1,(LeavesR_app (xs:=[_,_])).2 ⟨us,vs,rfl,h6,h3⟩⟩⟩
  · have e:us=ds:=by simpa using e
    subst e
    exact .inr ⟨h5,LeavesR_app.2 ⟨as,us++vs,rfl,h1,(LeavesR_app (xs:=[_,_])).2 ⟨us,vs,rfl,h6,h3⟩⟩⟩
theorem Wp_int {code:Code} (b:Nat) (pre post:List Leaf) (z:Int) {sz:Nat} {ro:Bool} {g:Nat→List Leaf} (hb:st.h b=some ⟨sz,1,g,ro⟩) (hg:g 0=pre++.int z :: post)
    (hs:-9223372036854775808≤z→z < 9223372036854775808→Wp c code Q { st with h:=hupd st.h b ⟨sz,1,fun _=>pre++.v (.int .i64 z) :: .v (.slice none 0 0) :: post,ro⟩})
    (hl:9223372036854775808≤z.natAbs→Wp c code Q { st with h:=hupd st.h b ⟨sz,1,fun _=>pre++.v (.int .i64 (if z < 0 then -1 else 1)) :: .nn .u64 (toI (digs BB z.natAbs)) :: post,ro⟩}):Wp c code Q st:=by
  intro E a w s
  rcases s.boxes b _ hb with ⟨_,q⟩|⟨k,cs,T,h1,h2,h3,h4⟩
  · cases q
  obtain ⟨es,h5,h6,h7⟩:=h4 0 Nat.zero_lt_one
  have h5:sizes (g 0)=sz:=h5
  rw [hg] at h5
  have h6:LeavesR E w (g 0) es:=h6
  rw [hg] at h6
  have other:∀(ls:List Leaf),LeavesR E w ls es→sizes ls=sz→SR c { st with h:=hupd st.h b ⟨sz,1,fun _=>ls,ro⟩} E a w:=by
    intro ls hl' hsl
    refine ⟨s.size,s.defers,s.slots,fun x bx hx=>?_,s.env,s.below,s.own,s.low,s.m,s.free⟩
    by_cases e:x=b
    · subst e
      have hx:hupd st.h x ⟨sz,1,fun _=>ls,ro⟩ x=some bx:=hx
      rw [hupd_same] at hx
      cases hx
      refine .inr ⟨k,cs,T,h1,h2,h3,fun i hi=>?_⟩
      obtain rfl:i=0:=by
        have:i < 1:=hi
        omega
      exact ⟨es,hsl,hl',h7⟩
    · have hx:hupd st.h b ⟨sz,1,fun _=>ls,ro⟩ x=some bx:=hx
      rw [hupd_other e] at hx
      exact s.boxes x bx hx
  have hsz:∀ys:List Leaf,sizes ys=2→sizes (pre++ys++post)=sz:=by
    intro ys hy
    rw [←h5,sizes_app,sizes_app,sizes_app,hy]
    simp [sizes,Leaf.size];omega
  rcases leaves_int h6 with ⟨h8,h9⟩|⟨h8,h9⟩
  · refine hs h8.1 h8.2 E a w (other _ h9 ?_)
    have:=hsz [.v (.int .i64 z),.v (.slice none 0 0)] rfl
    simpa using this
  · refine hl h8 E a w (other _ h9 ?_)
    have:=hsz [.v (.int .i64 (if z < 0 then -1 else 1)),.nn .u64 (toI (digs BB z.natAbs))] rfl
    simpa using this
theorem subLv_int {a b:Int} {r r':List Leaf} (h:a=b) (hr:SubLv r r'):SubLv (.int a :: r) (.int b :: r'):=by
  subst h
  refine ⟨fun E w cs ⟨xs,ys,e,h1,h2⟩=>⟨xs,ys,e,h1,hr.1 _ _ _ h2⟩,by simp [sizes,hr.2]⟩
theorem subLv_frac {a b:Rat} {r r':List Leaf} (h:a=b) (hr:SubLv r r'):SubLv (.frac a :: r) (.frac b :: r'):=by
  subst h
  refine ⟨fun E w cs ⟨xs,ys,e,h1,h2⟩=>⟨xs,ys,e,h1,hr.1 _ _ _ h2⟩,by simp [sizes,hr.2]⟩
theorem subLv_sm {z:Int} {r r':List Leaf} (h1:-9223372036854775808≤z) (h2:z < 9223372036854775808) (hr:SubLv r r'):SubLv (.v (.int .i64 z) :: .v (.slice none 0 0) :: r) (.int z :: r'):=by
  refine ⟨fun E w cs ⟨xs,ys,e,⟨h3,_⟩,us,vs,e',⟨h4,_⟩,h5⟩=>⟨[.int .i64 z,.slice none 0 0],vs,?_,.inl ⟨rfl,h1,h2⟩,hr.1 _ _ _ h5⟩,by simp [sizes,Leaf.size,hr.2];omega⟩
  subst h3 h4 e' e;rfl
abbrev fracA (q:Rat):AV:=.agg [.frac q]
theorem sub_agg {xs ys:List Leaf} (h:SubLv xs ys):Sub (.agg xs) (.agg ys):=fun _ _ _ ⟨cs,hv,h1⟩=>⟨cs,hv,h.1 _ _ _ h1⟩
theorem subLv_mkfrac {a b:Int} {q:Rat} {r r':List Leaf} (h1:a=q.num) (h2:b=q.den) (hr:SubLv r r'):SubLv (.int a :: .int b :: r) (.frac q :: r'):=by
  subst h1 h2
  refine ⟨fun E w cs ⟨xs,ys,e,h3,us,vs,e',h4,h5⟩=>⟨xs++us,vs,by rw [e,e',List.append_assoc],⟨xs,us,rfl,h3,h4⟩,hr.1 _ _ _ h5⟩,by simp [sizes,Leaf.size,hr.2];omega⟩
theorem subLv_unfrac {q:Rat} {r r':List Leaf} (hr:SubLv r r'):SubLv (.frac q :: r) (.int q.num :: .int q.den :: r'):=
  ⟨fun _ _ _ ⟨_,ys,e,⟨as,bs,e',h1,h2⟩,h3⟩=>⟨as,bs++ys,by rw [e,e',List.append_assoc],h1,bs,ys,rfl,h2,hr.1 _ _ _ h3⟩,by simp [sizes,Leaf.size,hr.2];omega⟩
theorem SubLv.trans {a b c:List Leaf} (h:SubLv a b) (g:SubLv b c):SubLv a c:=⟨fun _ _ _ x=>g.1 _ _ _ (h.1 _ _ _ x),g.2.trans h.2⟩
theorem subLv_cons {x:Leaf} {r r':List Leaf} (hr:SubLv r r'):SubLv (x :: r) (x :: r'):=⟨fun E w cs ⟨xs,ys,e,h1,h2⟩=>⟨xs,ys,e,h1,hr.1 _ _ _ h2⟩,by simp [sizes,hr.2]⟩
end Go.Ax
end
