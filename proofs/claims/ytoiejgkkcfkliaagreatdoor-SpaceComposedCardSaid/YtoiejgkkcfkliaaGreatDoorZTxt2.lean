/- Lemmas on the program and its library: part ZTxt2. -/
import Derived.Test.YtoiejgkkcfkliaaGreatDoorZ14
set_option linter.unusedVariables false
set_option linter.unusedSimpArgs false
section
namespace Go.Ax
def r6 (z:Int):List UInt8:=if z < 0 then 45 :: Lib.decDigits z.natAbs else Lib.decDigits z.natAbs
def c5 (q:Rat):List UInt8:=if q.den=1 then r6 q.num else r6 q.num++47 :: Lib.decDigits q.den
theorem b70 {l:List UInt8} (h:isD l) {c:UInt8} (hc:c.toNat < 48):c∉l:=fun hm=>by have:=h c hm;omega
theorem a5o {l:List UInt8} (h:isD l):(47:UInt8)∉l:=b70 h (by decide)
theorem b20 {l:List UInt8} (h:isD l):(45:UInt8)∉l:=b70 h (by decide)
theorem a1n (z:Int):(47:UInt8)∉r6 z:=by
  unfold r6
  split
  · intro h
    rcases List.mem_cons.1 h with h|h
    · exact absurd h (by decide)
    · exact a5o (a1x _) h
  · exact a5o (a1x _)
theorem b18 {a b:Nat} (h:Lib.decDigits a=Lib.decDigits b):a=b:=by rw [←a3y a,←a3y b,h]
theorem d53 {a b:Int} (h:r6 a=r6 b):a=b:=by
  unfold r6 at h
  split at h <;> split at h
  · have:=b18 (List.cons.inj h).2;omega
  · exfalso
    have:(45:UInt8)∈Lib.decDigits b.natAbs:=by rw [←h];simp
    exact b20 (a1x _) this
  · exfalso
    have:(45:UInt8)∈Lib.decDigits a.natAbs:=by rw [h];simp
    exact b20 (a1x _) this
  · have:=b18 h;omega
def a1q (c:UInt8):List UInt8→List UInt8
  | []=> []
  | x :: l=>if x=c then [] else x :: a1q c l
def a2o (c:UInt8):List UInt8→Option (List UInt8)
  | []=>none
  | x :: l=>if x=c then some l else a2o c l
theorem a9p {a b:List UInt8} {c:UInt8} (h:c∉a):a1q c (a++c :: b)=a∧a2o c (a++c :: b)=some b:=by
  induction a with
  | nil=>simp [a1q,a2o]
  | cons x a ih =>
    have hx:x≠c:=fun e=>h (by simp [e])
    have:=ih (fun hm=>h (by simp [hm]))
    simp [a1q,a2o,hx,this]
theorem a6r {a:List UInt8} {c:UInt8} (h:c∉a):a1q c a=a∧a2o c a=none:=by
  induction a with
  | nil=>simp [a1q,a2o]
  | cons x a ih =>
    have hx:x≠c:=fun e=>h (by simp [e])
    have:=ih (fun hm=>h (by simp [hm]))
    simp [a1q,a2o,hx,this]
theorem a5i (c:UInt8) (l:List UInt8):c∉a1q c l∧l=a1q c l++(match a2o c l with|none=> []|some b=>c :: b):=by
  rcases d2b l c with h|⟨a,b,rfl,h⟩
  · obtain ⟨h1,h2⟩:=a6r h
    rw [h1,h2];exact ⟨h,by simp⟩
  · obtain ⟨h1,h2⟩:=a9p (b:=b) h
    rw [h1,h2];exact ⟨h,rfl⟩
theorem b96 {p q:Rat} (h:c5 p=c5 q):p=q:=by
  have parts:∀q:Rat,a1q 47 (c5 q)=r6 q.num∧a2o 47 (c5 q)=if q.den=1 then none else some (Lib.decDigits q.den):=fun q=>by
    unfold c5
    split
    · exact a6r (a1n _)
    · exact a9p (a1n _)
  obtain ⟨a1,a2⟩:=parts p
  obtain ⟨b1,b2⟩:=parts q
  rw [h] at a1 a2
  have hn:=d53 (a1.symm.trans b1)
  have hd:=a2.symm.trans b2
  have hd:p.den=q.den:=by
    split at hd <;> split at hd
    · omega
    · cases hd
    · cases hd
    · exact b18 (Option.some.inj hd)
  exact Rat.ext hn hd
def a0l (l:List UInt8):Prop:=isD l∧l≠[]∧(l= [48]∨l.head?≠some 48)
instance (l:List UInt8):Decidable (a0l l):=by unfold a0l;infer_instance
theorem c0z (n:Nat):a0l (Lib.decDigits n):=by
  refine ⟨a1x n,a63 n,?_⟩
  rcases Nat.eq_zero_or_pos n with rfl|h
  · left;rw [a0x (by decide)];rfl
  · exact .inr (d5t h)
theorem a45 {l:List UInt8} (h:a0l l):Lib.decDigits (n6 l)=l:=e1f h.1 h.2.1 h.2.2
def a0m (s:List UInt8):List UInt8:=if s.head?=some 45 then s.tail else s
def a4o (s:List UInt8):Bool:=decide (s.head?=some 45)
def d1s (o:Option (List UInt8)):Bool:=match o with
  | none=>false
  | some d=>!decide (a0l d) || (decide (d= [48]) || decide (d= [49]))
def d1t (o:Option (List UInt8)):Bool:=match o with
  | none=>false
  | some d=>decide (600 < d.length)
def c8i (n:List UInt8) (o:Option (List UInt8)):Bool:=match o with
  | none=>false
  | some d=>decide (Nat.gcd (n6 n) (n6 d)≠1)
def a62 (neg:Bool) (n:List UInt8) (o:Option (List UInt8)):Int:=
  if !decide (a0l n) || (neg && decide (n= [48])) || d1s o then 1
  else if decide (600 < n.length) || d1t o then 4
  else if c8i n o then 1 else 0
def a0a (s:List UInt8):Int:=a62 (a4o s) (a1q 47 (a0m s)) (a2o 47 (a0m s))
def mkT (neg:Bool) (n:List UInt8) (o:Option (List UInt8)):List UInt8:=(if neg then [45] else [])++(n++(match o with|none=> []|some d=>47 :: d))
theorem b2c (s:List UInt8):s=mkT (a4o s) (a1q 47 (a0m s)) (a2o 47 (a0m s))∧(47:UInt8)∉a1q 47 (a0m s)∧(a4o s=false→(a1q 47 (a0m s)).head?≠some 45):=by
  obtain ⟨h1,h2⟩:=a5i 47 (a0m s)
  refine ⟨?_,h1,fun hn=>?_⟩
  · unfold mkT
    rw [←h2]
    unfold a4o a0m
    split
    · rename_i h
      cases s with
      | nil=>cases h
      | cons x s=>simp at h;subst h;simp
    · rename_i h;simp only [decide_eq_true_eq] at h;simp [h]
  · have hs:a0m s=s:=by
      unfold a0m;rw [if_neg];simpa [a4o] using hn
    rw [hs] at h2 ⊢
    have hn:s.head?≠some 45:=by simpa [a4o] using hn
    intro e
    cases h3:a1q 47 s with
    | nil=>rw [h3] at e;cases e
    | cons x r =>
      rw [h3] at e h2
      rw [h2] at hn
      exact hn e
def c1i (neg:Bool) (n:List UInt8) (o:Option (List UInt8)):Rat:=mkRat (if neg then -(n6 n:Int) else n6 n) (match o with|none=>1|some d=>n6 d)
theorem b19:Lib.decDigits 1= [49]:=by rw [a0x (by decide)];rfl
theorem a3z:Lib.decDigits 0= [48]:=by rw [a0x (by decide)];rfl
theorem d8p {neg:Bool} {n:List UInt8} (h:a0l n) (h0:(neg && decide (n= [48]))=false):r6 (if neg then -(n6 n:Int) else n6 n)=(if neg then [45] else [])++n:=by
  have hd:=a45 h
  cases neg
  · simp only [Bool.false_eq_true,if_false,List.nil_append]
    unfold r6
    rw [if_neg (by omega),Int.natAbs_natCast,hd]
  · simp only [Bool.true_and,decide_eq_false_iff_not] at h0
    have hp:n6 n≠0:=fun e=>h0 (by rw [←hd,e,a3z])
    simp only [if_true]
    unfold r6
    rw [if_pos (by omega),Int.natAbs_neg,Int.natAbs_natCast,hd];rfl
theorem d8o (neg:Bool) (n:Nat) (d:Nat):Nat.gcd (if neg then -(n:Int) else n).natAbs d=Nat.gcd n d:=by
  cases neg <;> simp
theorem c54 {neg:Bool} {n:List UInt8} {o:Option (List UInt8)} (h:a62 neg n o=0):mkT neg n o=c5 (c1i neg n o)∧(c1i neg n o).num=(if neg then -(n6 n:Int) else n6 n)∧(c1i neg n o).den=(match o with|none=>1|some d=>n6 d)∧
    a0l n∧n.length≤600∧(∀d,o=some d→a0l d∧d.length≤600):=by
  unfold a62 at h
  split at h
  · cases h
  · rename_i h1
    split at h
    · cases h
    · rename_i h2
      split at h
      · cases h
      · rename_i h3
        simp only [Bool.or_eq_true,Bool.not_eq_true',decide_eq_false_iff_not,not_or,Decidable.not_not,Bool.not_eq_true,decide_eq_true_eq] at h1 h2 h3
        obtain ⟨⟨a1,a2⟩,a3⟩:=h1
        obtain ⟨b1,b2⟩:=h2
        have hi:=d8p a1 a2
        cases o with
        | none =>
          have e:c1i neg n none=((if neg then -(n6 n:Int) else n6 n:Int):Rat):=by simp [c1i,Rat.mkRat_one]
          have en:(c1i neg n none).num=(if neg then -(n6 n:Int) else n6 n):=by rw [e];rfl
          have ed:(c1i neg n none).den=1:=by rw [e];rfl
          refine ⟨?_,en,ed,a1,by omega,fun d hd=>(by cases hd)⟩
          rw [c5,ed,if_pos rfl,en,hi]
          simp [mkT]
        | some d =>
          simp only [d1s,d1t,c8i,Bool.or_eq_false_iff,Bool.not_eq_eq_eq_not,Bool.not_false,decide_eq_true_eq,decide_eq_false_iff_not,Decidable.not_not] at a3 b2 h3
          obtain ⟨c1,c2,c3⟩:=a3
          have hd0:n6 d≠0:=fun e=>c2 (by rw [←a45 c1,e,a3z])
          have hd1:n6 d≠1:=fun e=>c3 (by rw [←a45 c1,e,b19])
          have hcop:Nat.Coprime (if neg then -(n6 n:Int) else n6 n).natAbs (n6 d):=by unfold Nat.Coprime;rw [d8o];exact h3
          have e:c1i neg n (some d)=⟨(if neg then -(n6 n:Int) else n6 n),n6 d,hd0,hcop⟩:=by
            simp only [c1i]
            rw [←Rat.normalize_eq_mkRat hd0]
            exact Rat.normalize_eq_mk' _ _ hd0 hcop
          refine ⟨?_,by rw [e],by rw [e],a1,by omega,fun d' hd'=>by cases hd';exact ⟨c1,by omega⟩⟩
          rw [c5,e]
          simp only
          rw [if_neg hd1,hi,a45 c1]
          simp [mkT]
def b6h (z:Int):Bool:=decide (600 < (Lib.decDigits z.natAbs).length)
def y4 (q:Rat):Bool:=b6h q.num || decide (600 < (Lib.decDigits q.den).length)
theorem d7q (z:Int) (h:(Lib.decDigits z.natAbs).length≤600):zl z≤32:=by
  refine c00 (Nat.lt_of_lt_of_le (a5b h) ?_)
  decide +kernel
theorem a3g (q:Rat):a4o (c5 q)=decide (q.num < 0)∧a1q 47 (a0m (c5 q))=Lib.decDigits q.num.natAbs∧a2o 47 (a0m (c5 q))=if q.den=1 then none else some (Lib.decDigits q.den):=by
  have hneg:a4o (c5 q)=decide (q.num < 0):=by
    unfold a4o c5 r6
    by_cases h:q.num < 0
    · by_cases h1:q.den=1 <;> simp [h,h1]
    · have hh:(Lib.decDigits q.num.natAbs).head?≠some 45:=c6l (a1x _)
      have hh2:∀t,(Lib.decDigits q.num.natAbs++t).head?≠some 45:=fun t=>by
        cases h3:Lib.decDigits q.num.natAbs with
        | nil=>exact absurd h3 (a63 _)
        | cons x r=>rw [h3] at hh;simpa using hh
      by_cases h1:q.den=1
      · simp [h,h1,hh]
      · simp only [h,h1,if_false,decide_false,decide_eq_false_iff_not];exact hh2 _
  have hu:a0m (c5 q)=Lib.decDigits q.num.natAbs++(if q.den=1 then [] else 47 :: Lib.decDigits q.den):=by
    by_cases h:q.num < 0
    · have:(c5 q).head?=some 45:=by simpa [a4o,h] using hneg
      unfold a0m;rw [if_pos this]
      unfold c5 r6
      by_cases h1:q.den=1 <;> simp [h,h1]
    · have:¬(c5 q).head?=some 45:=by simpa [a4o,h] using hneg
      unfold a0m;rw [if_neg this]
      unfold c5 r6
      by_cases h1:q.den=1 <;> simp [h,h1]
  refine ⟨hneg,?_⟩
  rw [hu]
  by_cases h1:q.den=1
  · simp only [h1,if_true,List.append_nil];exact a6r (a5o (a1x _))
  · simp only [h1,if_false];exact a9p (a5o (a1x _))
theorem b7w (q:Rat):a0a (c5 q)=if y4 q then 4 else 0:=by
  obtain ⟨h1,h2,h3⟩:=a3g q
  unfold a0a
  rw [h1,h2,h3]
  unfold a62
  rw [if_neg,if_neg (c:=c8i _ _=true)]
  · congr 1
    unfold y4 b6h d1t
    by_cases hd:q.den=1
    · simp [hd,b19]
    · simp [hd]
  · unfold c8i
    by_cases hd:q.den=1
    · simp [hd]
    · simp only [hd,if_false,a3y,ne_eq,decide_not,Bool.not_eq_true',decide_eq_false_iff_not,Decidable.not_not]
      exact q.reduced
  · simp only [Bool.or_eq_true,Bool.not_eq_true',decide_eq_false_iff_not,not_or,Decidable.not_not,Bool.not_eq_true]
    refine ⟨⟨c0z _,?_⟩,?_⟩
    · rw [Bool.and_eq_false_iff]
      by_cases hn:q.num < 0
      · right
        simp only [decide_eq_false_iff_not]
        intro e
        have:=b18 (e.trans a3z.symm)
        omega
      · left;simpa using hn
    · unfold d1s
      by_cases hd:q.den=1
      · simp [hd]
      · simp only [hd,if_false,Bool.or_eq_false_iff,Bool.not_eq_eq_eq_not,Bool.not_false,decide_eq_true_eq,decide_eq_false_iff_not]
        refine ⟨c0z _,fun e=>?_,fun e=>?_⟩
        · exact q.den_nz (b18 (e.trans a3z.symm))
        · exact hd (b18 (e.trans b19.symm))
theorem a2l {s:List UInt8} (h:a0a s=0):∃q:Rat,s=c5 q∧y4 q=false:=by
  have hp:=(b2c s).1
  obtain ⟨h1,_⟩:=c54 (show a62 (a4o s) (a1q 47 (a0m s)) (a2o 47 (a0m s))=0 from h)
  refine ⟨_,hp.trans h1,?_⟩
  have:=b7w (c1i (a4o s) (a1q 47 (a0m s)) (a2o 47 (a0m s)))
  rw [←hp.trans h1,h] at this
  split at this
  · cases this
  · rename_i h;simpa using h
theorem d73 {q:Rat} (h:y4 q=false):rz q≤32:=by
  simp only [y4,b6h,Bool.or_eq_false_iff,decide_eq_false_iff_not,Nat.not_lt] at h
  have h1:=d7q q.num h.1
  have h2:=d7q (q.den:Int) (by simpa using h.2)
  unfold rz;omega
-- axioms of a2l
-- axioms of d73
end Go.Ax
end
section
namespace Go.Ax
def Q (k:Nat) (q:Rat):Prop:=q.num.natAbs < 2 ^ k∧q.den < 2 ^ k
theorem a07 {a b:Nat} {q:Rat} (h:Q a q) (hab:a≤b):Q b q:=
  ⟨Nat.lt_of_lt_of_le h.1 (Nat.pow_le_pow_right (by decide) hab),Nat.lt_of_lt_of_le h.2 (Nat.pow_le_pow_right (by decide) hab)⟩
theorem b4f {k:Nat} {n d:Int} (hd:d≠0) (h1:n.natAbs < 2 ^ k) (h2:d.natAbs < 2 ^ k):Q k (Rat.divInt n d):=
  ⟨Nat.lt_of_le_of_lt (b6l n d hd).1 h1,Nat.lt_of_le_of_lt (b6l n d hd).2 h2⟩
theorem f0 {a b:Nat} {p q:Rat} (h:Q a p) (g:Q b q):Q (a+b+1) (p+q):=by
  have e:p+q=Rat.divInt (p.num*q.den+q.num*p.den) ((p.den:Int)*q.den):=by
    rw [Rat.add_def,Rat.normalize_eq_mkRat,←Int.natCast_mul];rfl
  rw [e]
  have d1:=p.den_pos
  have d2:=q.den_pos
  have m1:(p.num*q.den).natAbs < 2 ^ a*2 ^ b:=by rw [Int.natAbs_mul];exact Nat.mul_lt_mul'' h.1 g.2
  have m2:(q.num*p.den).natAbs < 2 ^ a*2 ^ b:=by rw [Int.natAbs_mul,Nat.mul_comm];exact Nat.mul_lt_mul'' h.2 g.1
  have m3:((p.den:Int)*q.den).natAbs < 2 ^ a*2 ^ b:=by rw [Int.natAbs_mul];exact Nat.mul_lt_mul'' h.2 g.2
  have e2:2 ^ (a+b+1)=2 ^ a*2 ^ b*2:=by rw [Nat.pow_succ,Nat.pow_add]
  refine b4f (Int.mul_ne_zero (by omega) (by omega)) ?_ ?_ <;> rw [e2] <;> omega
theorem c6 {a b:Nat} {p q:Rat} (h:Q a p) (g:Q b q):Q (a+b) (p*q):=by
  have e:p*q=Rat.divInt (p.num*q.num) ((p.den:Int)*q.den):=by
    rw [Rat.mul_def,Rat.normalize_eq_mkRat,←Int.natCast_mul];rfl
  rw [e]
  have d1:=p.den_pos
  have d2:=q.den_pos
  refine b4f (Int.mul_ne_zero (by omega) (by omega)) ?_ ?_
  · rw [Int.natAbs_mul,Nat.pow_add];exact Nat.mul_lt_mul'' h.1 g.1
  · rw [Int.natAbs_mul,Nat.pow_add];exact Nat.mul_lt_mul'' h.2 g.2
theorem c9w {a:Nat} {p:Rat} (h:Q a p):Q a (-p):=by
  unfold Q;rw [Rat.neg_num,Rat.neg_den,Int.natAbs_neg];exact h
theorem j9 {a b:Nat} {p q:Rat} (h:Q a p) (g:Q b q):Q (a+b+1) (p - q):=by
  rw [Rat.sub_eq_add_neg];exact f0 h (c9w g)
theorem a25 {a:Nat} {p:Rat} (h:Q a p):Q a p⁻¹:=by
  by_cases h0:p=0
  · subst h0;rw [Rat.inv_zero];exact h
  · have:p.num≠0:=fun e=>h0 (Rat.num_eq_zero.1 e)
    rw [Rat.inv_def]
    exact b4f this (by simpa using h.2) h.1
theorem a0b {a b:Nat} {p q:Rat} (h:Q a p) (g:Q b q):Q (a+b) (p / q):=by
  rw [Rat.div_def];exact c6 h (a25 g)
theorem d9w {k:Nat} {z:Int} (h:z.natAbs < 2 ^ (k+1)):Q (k+1) (z:Rat):=
  ⟨by rw [Rat.num_intCast];exact h,by rw [Rat.den_intCast];exact Nat.one_lt_two_pow (by omega)⟩
theorem c1l {z:Int} (h1:-9223372036854775808≤z) (h2:z≤9223372036854775807):Q 64 (z:Rat):=
  d9w (k := 63) (by have : 2 ^ (63 + 1) = 18446744073709551616 := by decide
                    omega)
theorem a9t:Q 1 (0:Rat):=⟨by decide,by decide⟩
theorem b7r:Q 1 (1:Rat):=⟨by decide,by decide⟩
theorem b4e {z:Int} {k:Nat} (h:z.natAbs < 2 ^ k):zl z≤k:=c00 (Nat.lt_of_lt_of_le h (Nat.pow_le_pow_left (by decide) k))
theorem Q_zl {k:Nat} {q:Rat} (h:Q k q):zl q.num≤k∧zl (q.den:Int)≤k:=⟨b4e h.1,b4e (by simpa using h.2)⟩
theorem b8c {k:Nat} {q:Rat} (h:Q k q):rz q≤k:=by
  have:=Q_zl h
  unfold rz;omega
theorem c8 {k K:Nat} {q:Rat} (h:Q k q) (hk:Nat.ble k K=true):rz q≤K:=Nat.le_trans (b8c h) (Nat.le_of_ble_eq_true hk)
theorem j4 {k K:Nat} {q:Rat} (h:Q k q) (hk:Nat.ble k K=true):Q K q:=a07 h (Nat.le_of_ble_eq_true hk)
theorem d1i (n:Nat):10 ^ n≤2 ^ (4*n):=by rw [Nat.pow_mul];exact Nat.pow_le_pow_left (by decide) n
theorem c9p {m n:Nat} (h:m < n):10 ^ m < 2 ^ (4*n):=Nat.lt_of_lt_of_le (Nat.pow_lt_pow_right (by decide) h) (d1i n)
theorem c1y (n:Nat):2 ^ (3*n)≤10 ^ n:=by rw [Nat.pow_mul];exact Nat.pow_le_pow_left (by decide) n
theorem b3x {v k:Nat} (h:v < 2 ^ k):((v:Nat):Int).natAbs < 2 ^ k:=by rw [Int.natAbs_natCast];exact h
theorem c2q {l:List UInt8} {n:Nat} (h:isD l) (hl:l.length≤n):n6 l < 2 ^ (4*n):=
  Nat.lt_of_lt_of_le (a6l h) (Nat.le_trans (Nat.pow_le_pow_right (by decide) hl) (d1i n))
theorem Q_dec {n:Nat} {q:Rat} (h1:(Lib.decDigits q.num.natAbs).length≤n) (h2:(Lib.decDigits q.den).length≤n):Q (4*n) q:=by
  have e:10 ^ n≤2 ^ (4*n):=by rw [Nat.pow_mul];exact Nat.pow_le_pow_left (by decide) n
  exact ⟨Nat.lt_of_lt_of_le (a5b h1) e,Nat.lt_of_lt_of_le (a5b h2) e⟩
theorem a0z {q:Rat} (h:y4 q=false):Q 2400 q:=by
  simp only [y4,b6h,Bool.or_eq_false_iff,decide_eq_false_iff_not] at h
  exact Q_dec (n:=600) (by omega) (by omega)
end Go.Ax
end
section
namespace Go.Ax
open Go.RowKit (Below)
def b2p (ls:List ByteArray) (i:Nat):List i7:=if i < ls.length then [.v (.string (ls.getD i ⟨#[]⟩))] else [.u]
theorem d9f {ls:List ByteArray} {i:Nat} (h:i < ls.length):b2p ls i= [.v (.string (ls.getD i ⟨#[]⟩))]:=if_pos h
theorem d1a {ls:List ByteArray} {n:Nat} (i:Nat):clL n (b2p ls i):=by
  unfold b2p;split <;> exact ⟨trivial,trivial⟩
variable {c:Ctx} {Q:Exit→St→Prop} {st:St}
theorem c8j {l l':List ByteArray} {i:Nat} (h:i < l.length):(l++l').getD i ⟨#[]⟩=l.getD i ⟨#[]⟩:=by
  simp [List.getD_eq_getElem?_getD,List.getElem?_append_left h]
theorem c6h {l l':List ByteArray} {i:Nat} (h:¬i < l.length):(l++l').getD i ⟨#[]⟩=l'.getD (i - l.length) ⟨#[]⟩:=by
  simp [List.getD_eq_getElem?_getD,List.getElem?_append_right (Nat.le_of_not_lt h)]
theorem d2o {ops:Array Oper} {K:St→Prop} {ps:List Prop} {o:Oper} {rest:List Oper} {sh:List Sh} (hc:a0d c) (b n cc:Nat) (ls:List ByteArray) (d:ByteArray) {x y:Operand} {T:TypeId} {bytes:Nat} {zs:List Value} {g':Nat→List i7}
    (ho:a4k o=some (x,y,T)) (ht:a1j c.tt T=some (1,bytes,zs)) (hb:Nat.ble c.nb0 b=true) (hx:a1o st.t x= .one (.gr b 1 n cc)) (hy:a1o st.t y= .one (.row 1 1 g')) (hg:g' 0= [.v (.string d)])
    (hbox:(ls= []∧cc=0)∨∃ro,st.h b=some ⟨1,cc,b2p ls,ro⟩) (hls:ls.length=n) (hn:n≤cc) (h63:n≤1000000000000) (hbytes:bytes≤100) (hp:y8 ps)
    (h:∀c',n+1≤c'→t8 c.P c.G c.ns ops (a22 c ops K) (n9 c.tt c.ns ops rest (st.appG o.dst b 1 (n+1) c' (b2p (ls++ [d]))) [] []) fun st' _=>K st'):t8 c.P c.G c.ns ops (a22 c ops K) (.hand ps o rest st sh) fun st' _=>K st':=by
  have hm:(n+1)*bytes≤(1000000000000+1)*100:=Nat.mul_le_mul (by omega) hbytes
  refine b9y hc b n cc 1 (b2p ls) (fun i=> [.v (.string ([d].getD i ⟨#[]⟩))]) ho ht (Nat.le_of_ble_eq_true hb) (hx ▸ Sub.refl _) ?_ hn ?_ (fun i _=>d1a i) Nat.zero_lt_one (by omega) (by omega) hp fun c' hc'=>?_
  · rw [hy]
    rintro E w v ⟨_,h⟩
    refine ⟨rfl,h.imp id ?_⟩
    rintro ⟨b,o,c,h1,h2,h3,h4⟩
    refine ⟨b,o,c,h1,h2,h3,fun i hi=>?_⟩
    obtain rfl:i=0:=by omega
    have:=h4 0 hi
    rw [hg] at this
    exact this
  · rcases hbox with ⟨h1,h2⟩|h
    · subst h1;exact .inl ⟨hls.symm,h2⟩
    · exact .inr h
  · have e:(fun i=>if i < n then b2p ls i else if i < n+1 then (fun i=> [i7.v (.string ([d].getD i ⟨#[]⟩))]) (i - n) else List.replicate 1 .u)=b2p (ls++ [d]):=by
      funext i
      unfold b2p
      rw [List.length_append,hls]
      by_cases h1:i < n
      · rw [if_pos h1,if_pos h1,if_pos (by simp;omega),c8j (by omega)]
      · rw [if_neg h1]
        by_cases h2:i < n+1
        · rw [if_pos h2,if_pos (by simpa using h2),c6h (by omega),hls]
        · rw [if_neg h2,if_neg (by simpa using h2)];rfl
    have:=h c' hc'
    have e2:st.app o.dst b 1 n 1 c' (b2p ls) (fun i=> [.v (.string ([d].getD i ⟨#[]⟩))])=st.appG o.dst b 1 (n+1) c' (b2p (ls++ [d])):=by
      unfold St.app
      rw [e]
    rw [e2]
    exact this
theorem b4j {nb b cc:Nat} {A B:List ByteArray} (h:A=B) (hb:Nat.ble (b+1) nb=true):a1g nb [(b,some ⟨1,cc,b2p A,true⟩,⟨1,cc,b2p B,true⟩)]:=by
  subst h
  exact a6x hb (fun i _=>d1a i) rfl (fun _ _=>rfl) a28
theorem e02 {x y z:Code} (R:St→Prop) (h1:Wp c x (Nxt (Wp c y (Nxt R Q)) Q) st) (h2:∀st,R st→Wp c z Q st):Wp c x (Nxt (Wp c (.seq y z) Q) Q) st:=by
  refine h1.mono fun e st h=>?_
  cases e with
  | normal =>
    refine j0 (Wp.mono h fun e st h=>?_)
    cases e with
    | normal=>exact h2 st h
    | _=>exact h
  | _=>exact h
theorem a74 {l:List Value} {n:Nat} (h:l.length=n):l=(List.range n).map fun i=>l.getD i undef:=by
  apply List.ext_getElem
  · simp [h]
  · intro i h1 h2
    simp [List.getD_eq_getElem?_getD,List.getElem?_eq_getElem h1]
def d59 (st:St) (d:Nat) (v:Value):St:={ t:=fun n=>if n=d then .one (.v v) else .u,h:=fun _=>none,nb:=st.nb }
theorem SR.last {E:u6} {a a':Act} {w w':World} (s:SR c st E a w) {d:Nat} {v:Value} (hsz:a'.tmps.size=c.N) (hd:a'.defers=c.defs) (hv:a'.tmps.getD d undef=v) (h1:v.oneCell'=true) (hb:Below w.heap.size w w'):SR c (d59 st d v) E a' w' where
  size:=hsz
  defers:=hd
  slots:=fun n=>by
    unfold d59
    dsimp only
    split
    · rename_i h;subst h;exact ⟨rfl,by rw [hv],h1⟩
    · trivial
  boxes:=fun _ _ h=>by cases h
  env:=s.env.below hb.size
  below:=s.below.below hb s.below.size
  own:=s.own
  low:=s.low
  m:=s.m
  free:=s.free
theorem SR.texts {E:u6} {a:Act} {w:World} (s:SR c st E a w) {t b n cc:Nat} {ls:List ByteArray} {ro:Bool} (ht:st.t t= .one (.gr b 1 n cc)) (hbox:st.h b=some ⟨1,cc,b2p ls,ro⟩) (hls:ls.length=n) (hn:n≤cc) (h0:0 < n) :
    ∃k,a.tmps.getD t undef= .slice (some ⟨k,0,none⟩) n cc∧k < w.heap.size∧∀i,i < n→w.cell? ⟨k,i,none⟩=some (.string (ls.getD i ⟨#[]⟩)):=by
  have hs:=s.slots t
  rw [ht] at hs
  obtain ⟨_,hs|⟨k,hk,hs⟩⟩:=hs
  · omega
  simp only [List.cons.injEq,and_true] at hs
  refine ⟨k,hs,s.env.r b k hk,fun i hi=>?_⟩
  rcases s.boxes b _ hbox with ⟨_,h0⟩|⟨k',cs,T,h1,h2,h3,h4⟩
  · dsimp only at h0;omega
  rw [hk] at h1
  cases h1
  obtain ⟨es,e1,e2,e3⟩:=h4 i (show i < cc by omega)
  dsimp only at e2 e3
  rw [d9f (by omega)] at e2
  obtain ⟨xs,ys,rfl,⟨rfl,_⟩,rfl⟩:=e2
  have:=e3 0 _ rfl
  simp only [Nat.mul_one,Nat.add_zero] at this
  simp [World.cell?,h2,this]
end Go.Ax
end
