/- Lemmas on the program and its library: part ZTxt2. -/
import Derived.Test.YtoiejgkkcfkliaaGreatDoorZ14
set_option linter.unusedVariables false
set_option linter.unusedSimpArgs false
section
namespace Go.Ax
def intL (z:Int):List UInt8:=if z < 0 then 45 :: Lib.decDigits z.natAbs else Lib.decDigits z.natAbs
def ratL (q:Rat):List UInt8:=if q.den=1 then intL q.num else intL q.num++47 :: Lib.decDigits q.den
theorem not_mem_isD {l:List UInt8} (h:isD l) {c:UInt8} (hc:c.toNat < 48):c∉l:=fun hm=>by have:=h c hm;omega
theorem slash_not_isD {l:List UInt8} (h:isD l):(47:UInt8)∉l:=not_mem_isD h (by decide)
theorem minus_not_isD {l:List UInt8} (h:isD l):(45:UInt8)∉l:=not_mem_isD h (by decide)
theorem slash_not_int (z:Int):(47:UInt8)∉intL z:=by
  unfold intL
  split
  · intro h
    rcases List.mem_cons.1 h with h|h
    · exact absurd h (by decide)
    · exact slash_not_isD (dec_isD _) h
  · exact slash_not_isD (dec_isD _)
theorem dec_inj {a b:Nat} (h:Lib.decDigits a=Lib.decDigits b):a=b:=by rw [←dec_valD a,←dec_valD b,h]
theorem intL_inj {a b:Int} (h:intL a=intL b):a=b:=by
  unfold intL at h
  split at h <;> split at h
  · have:=dec_inj (List.cons.inj h).2;omega
  · exfalso
    have:(45:UInt8)∈Lib.decDigits b.natAbs:=by rw [←h];simp
    exact minus_not_isD (dec_isD _) this
  · exfalso
    have:(45:UInt8)∈Lib.decDigits a.natAbs:=by rw [h];simp
    exact minus_not_isD (dec_isD _) this
  · have:=dec_inj h;omega
def upTo (c:UInt8):List UInt8→List UInt8
  | []=> []
  | x :: l=>if x=c then [] else x :: upTo c l
def behind (c:UInt8):List UInt8→Option (List UInt8)
  | []=>none
  | x :: l=>if x=c then some l else behind c l
theorem upTo_hit {a b:List UInt8} {c:UInt8} (h:c∉a):upTo c (a++c :: b)=a∧behind c (a++c :: b)=some b:=by
  induction a with
  | nil=>simp [upTo,behind]
  | cons x a ih =>
    have hx:x≠c:=fun e=>h (by simp [e])
    have:=ih (fun hm=>h (by simp [hm]))
    simp [upTo,behind,hx,this]
theorem upTo_miss {a:List UInt8} {c:UInt8} (h:c∉a):upTo c a=a∧behind c a=none:=by
  induction a with
  | nil=>simp [upTo,behind]
  | cons x a ih =>
    have hx:x≠c:=fun e=>h (by simp [e])
    have:=ih (fun hm=>h (by simp [hm]))
    simp [upTo,behind,hx,this]
theorem upTo_split (c:UInt8) (l:List UInt8):c∉upTo c l∧l=upTo c l++(match behind c l with|none=> []|some b=>c :: b):=by
  rcases cut_cases l c with h|⟨a,b,rfl,h⟩
  · obtain ⟨h1,h2⟩:=upTo_miss h
    rw [h1,h2];exact ⟨h,by simp⟩
  · obtain ⟨h1,h2⟩:=upTo_hit (b:=b) h
    rw [h1,h2];exact ⟨h,rfl⟩
theorem ratL_inj {p q:Rat} (h:ratL p=ratL q):p=q:=by
  have parts:∀q:Rat,upTo 47 (ratL q)=intL q.num∧behind 47 (ratL q)=if q.den=1 then none else some (Lib.decDigits q.den):=fun q=>by
    unfold ratL
    split
    · exact upTo_miss (slash_not_int _)
    · exact upTo_hit (slash_not_int _)
  obtain ⟨a1,a2⟩:=parts p
  obtain ⟨b1,b2⟩:=parts q
  rw [h] at a1 a2
  have hn:=intL_inj (a1.symm.trans b1)
  have hd:=a2.symm.trans b2
  have hd:p.den=q.den:=by
    split at hd <;> split at hd
    · omega
    · cases hd
    · cases hd
    · exact dec_inj (Option.some.inj hd)
  exact Rat.ext hn hd
def wholeD (l:List UInt8):Prop:=isD l∧l≠[]∧(l= [48]∨l.head?≠some 48)
instance (l:List UInt8):Decidable (wholeD l):=by unfold wholeD;infer_instance
theorem wholeD_dec (n:Nat):wholeD (Lib.decDigits n):=by
  refine ⟨dec_isD n,dec_ne_nil n,?_⟩
  rcases Nat.eq_zero_or_pos n with rfl|h
  · left;rw [dec_small (by decide)];rfl
  · exact .inr (dec_head h)
theorem dec_wholeD {l:List UInt8} (h:wholeD l):Lib.decDigits (valD l)=l:=dec_of h.1 h.2.1 h.2.2
def unsig (s:List UInt8):List UInt8:=if s.head?=some 45 then s.tail else s
def isNeg (s:List UInt8):Bool:=decide (s.head?=some 45)
def badD (o:Option (List UInt8)):Bool:=match o with
  | none=>false
  | some d=>!decide (wholeD d) || (decide (d= [48]) || decide (d= [49]))
def bigD (o:Option (List UInt8)):Bool:=match o with
  | none=>false
  | some d=>decide (600 < d.length)
def gcdD (n:List UInt8) (o:Option (List UInt8)):Bool:=match o with
  | none=>false
  | some d=>decide (Nat.gcd (valD n) (valD d)≠1)
def checkT (neg:Bool) (n:List UInt8) (o:Option (List UInt8)):Int:=
  if !decide (wholeD n) || (neg && decide (n= [48])) || badD o then 1
  else if decide (600 < n.length) || bigD o then 4
  else if gcdD n o then 1 else 0
def checkL (s:List UInt8):Int:=checkT (isNeg s) (upTo 47 (unsig s)) (behind 47 (unsig s))
def mkT (neg:Bool) (n:List UInt8) (o:Option (List UInt8)):List UInt8:=(if neg then [45] else [])++(n++(match o with|none=> []|some d=>47 :: d))
theorem mkT_parts (s:List UInt8):s=mkT (isNeg s) (upTo 47 (unsig s)) (behind 47 (unsig s))∧(47:UInt8)∉upTo 47 (unsig s)∧(isNeg s=false→(upTo 47 (unsig s)).head?≠some 45):=by
  obtain ⟨h1,h2⟩:=upTo_split 47 (unsig s)
  refine ⟨?_,h1,fun hn=>?_⟩
  · unfold mkT
    rw [←h2]
    unfold isNeg unsig
    split
    · rename_i h
      cases s with
      | nil=>cases h
      | cons x s=>simp at h;subst h;simp
    · rename_i h;simp only [decide_eq_true_eq] at h;simp [h]
  · have hs:unsig s=s:=by
      unfold unsig;rw [if_neg];simpa [isNeg] using hn
    rw [hs] at h2 ⊢
    have hn:s.head?≠some 45:=by simpa [isNeg] using hn
    intro e
    cases h3:upTo 47 s with
    | nil=>rw [h3] at e;cases e
    | cons x r =>
      rw [h3] at e h2
      rw [h2] at hn
      exact hn e
def valT (neg:Bool) (n:List UInt8) (o:Option (List UInt8)):Rat:=mkRat (if neg then -(valD n:Int) else valD n) (match o with|none=>1|some d=>valD d)
theorem dec_one:Lib.decDigits 1= [49]:=by rw [dec_small (by decide)];rfl
theorem dec_zero:Lib.decDigits 0= [48]:=by rw [dec_small (by decide)];rfl
theorem intL_of {neg:Bool} {n:List UInt8} (h:wholeD n) (h0:(neg && decide (n= [48]))=false):intL (if neg then -(valD n:Int) else valD n)=(if neg then [45] else [])++n:=by
  have hd:=dec_wholeD h
  cases neg
  · simp only [Bool.false_eq_true,if_false,List.nil_append]
    unfold intL
    rw [if_neg (by omega),Int.natAbs_natCast,hd]
  · simp only [Bool.true_and,decide_eq_false_iff_not] at h0
    have hp:valD n≠0:=fun e=>h0 (by rw [←hd,e,dec_zero])
    simp only [if_true]
    unfold intL
    rw [if_pos (by omega),Int.natAbs_neg,Int.natAbs_natCast,hd];rfl
theorem gcd_sgn (neg:Bool) (n:Nat) (d:Nat):Nat.gcd (if neg then -(n:Int) else n).natAbs d=Nat.gcd n d:=by
  cases neg <;> simp
theorem checkT_zero {neg:Bool} {n:List UInt8} {o:Option (List UInt8)} (h:checkT neg n o=0):mkT neg n o=ratL (valT neg n o)∧(valT neg n o).num=(if neg then -(valD n:Int) else valD n)∧(valT neg n o).den=(match o with|none=>1|some d=>valD d)∧
    wholeD n∧n.length≤600∧(∀d,o=some d→wholeD d∧d.length≤600):=by
  unfold checkT at h
  split at h
  · cases h
  · rename_i h1
    split at h
    · cases h
    · rename_i h2
      split at h
      · cases h
      · rename_i h3
        simp only [Bool.or_eq_true,Bool.not_eq_true',decide_eq_false_iff_not,not_or,Decidable.not_not,Bool.not_eq_true,decide_eq_true_eq] at h1 h2 h3
        obtain ⟨⟨a1,a2⟩,a3⟩:=h1
        obtain ⟨b1,b2⟩:=h2
        have hi:=intL_of a1 a2
        cases o with
        | none =>
          have e:valT neg n none=((if neg then -(valD n:Int) else valD n:Int):Rat):=by simp [valT,Rat.mkRat_one]
          have en:(valT neg n none).num=(if neg then -(valD n:Int) else valD n):=by rw [e];rfl
          have ed:(valT neg n none).den=1:=by rw [e];rfl
          refine ⟨?_,en,ed,a1,by omega,fun d hd=>(by cases hd)⟩
          rw [ratL,ed,if_pos rfl,en,hi]
          simp [mkT]
        | some d =>
          simp only [badD,bigD,gcdD,Bool.or_eq_false_iff,Bool.not_eq_eq_eq_not,Bool.not_false,decide_eq_true_eq,decide_eq_false_iff_not,Decidable.not_not] at a3 b2 h3
          obtain ⟨c1,c2,c3⟩:=a3
          have hd0:valD d≠0:=fun e=>c2 (by rw [←dec_wholeD c1,e,dec_zero])
          have hd1:valD d≠1:=fun e=>c3 (by rw [←dec_wholeD c1,e,dec_one])
          have hcop:Nat.Coprime (if neg then -(valD n:Int) else valD n).natAbs (valD d):=by unfold Nat.Coprime;rw [gcd_sgn];exact h3
          have e:valT neg n (some d)=⟨(if neg then -(valD n:Int) else valD n),valD d,hd0,hcop⟩:=by
            simp only [valT]
            rw [←Rat.normalize_eq_mkRat hd0]
            exact Rat.normalize_eq_mk' _ _ hd0 hcop
          refine ⟨?_,by rw [e],by rw [e],a1,by omega,fun d' hd'=>by cases hd';exact ⟨c1,by omega⟩⟩
          rw [ratL,e]
          simp only
          rw [if_neg hd1,hi,dec_wholeD c1]
          simp [mkT]
def bigZ (z:Int):Bool:=decide (600 < (Lib.decDigits z.natAbs).length)
def bigQ (q:Rat):Bool:=bigZ q.num || decide (600 < (Lib.decDigits q.den).length)
theorem zl_dec (z:Int) (h:(Lib.decDigits z.natAbs).length≤600):zl z≤32:=by
  refine zl_le (Nat.lt_of_lt_of_le (le_dec_len h) ?_)
  decide +kernel
theorem ratL_parts (q:Rat):isNeg (ratL q)=decide (q.num < 0)∧upTo 47 (unsig (ratL q))=Lib.decDigits q.num.natAbs∧behind 47 (unsig (ratL q))=if q.den=1 then none else some (Lib.decDigits q.den):=by
  have hneg:isNeg (ratL q)=decide (q.num < 0):=by
    unfold isNeg ratL intL
    by_cases h:q.num < 0
    · by_cases h1:q.den=1 <;> simp [h,h1]
    · have hh:(Lib.decDigits q.num.natAbs).head?≠some 45:=isD_head (dec_isD _)
      have hh2:∀t,(Lib.decDigits q.num.natAbs++t).head?≠some 45:=fun t=>by
        cases h3:Lib.decDigits q.num.natAbs with
        | nil=>exact absurd h3 (dec_ne_nil _)
        | cons x r=>rw [h3] at hh;simpa using hh
      by_cases h1:q.den=1
      · simp [h,h1,hh]
      · simp only [h,h1,if_false,decide_false,decide_eq_false_iff_not];exact hh2 _
  have hu:unsig (ratL q)=Lib.decDigits q.num.natAbs++(if q.den=1 then [] else 47 :: Lib.decDigits q.den):=by
    by_cases h:q.num < 0
    · have:(ratL q).head?=some 45:=by simpa [isNeg,h] using hneg
      unfold unsig;rw [if_pos this]
      unfold ratL intL
      by_cases h1:q.den=1 <;> simp [h,h1]
    · have:¬(ratL q).head?=some 45:=by simpa [isNeg,h] using hneg
      unfold unsig;rw [if_neg this]
      unfold ratL intL
      by_cases h1:q.den=1 <;> simp [h,h1]
  refine ⟨hneg,?_⟩
  rw [hu]
  by_cases h1:q.den=1
  · simp only [h1,if_true,List.append_nil];exact upTo_miss (slash_not_isD (dec_isD _))
  · simp only [h1,if_false];exact upTo_hit (slash_not_isD (dec_isD _))
theorem checkL_ratL (q:Rat):checkL (ratL q)=if bigQ q then 4 else 0:=by
  obtain ⟨h1,h2,h3⟩:=ratL_parts q
  unfold checkL
  rw [h1,h2,h3]
  unfold checkT
  rw [if_neg,if_neg (c:=gcdD _ _=true)]
  · congr 1
    unfold bigQ bigZ bigD
    by_cases hd:q.den=1
    · simp [hd,dec_one]
    · simp [hd]
  · unfold gcdD
    by_cases hd:q.den=1
    · simp [hd]
    · simp only [hd,if_false,dec_valD,ne_eq,decide_not,Bool.not_eq_true',decide_eq_false_iff_not,Decidable.not_not]
      exact q.reduced
  · simp only [Bool.or_eq_true,Bool.not_eq_true',decide_eq_false_iff_not,not_or,Decidable.not_not,Bool.not_eq_true]
    refine ⟨⟨wholeD_dec _,?_⟩,?_⟩
    · rw [Bool.and_eq_false_iff]
      by_cases hn:q.num < 0
      · right
        simp only [decide_eq_false_iff_not]
        intro e
        have:=dec_inj (e.trans dec_zero.symm)
        omega
      · left;simpa using hn
    · unfold badD
      by_cases hd:q.den=1
      · simp [hd]
      · simp only [hd,if_false,Bool.or_eq_false_iff,Bool.not_eq_eq_eq_not,Bool.not_false,decide_eq_true_eq,decide_eq_false_iff_not]
        refine ⟨wholeD_dec _,fun e=>?_,fun e=>?_⟩
        · exact q.den_nz (dec_inj (e.trans dec_zero.symm))
        · exact hd (dec_inj (e.trans dec_one.symm))
theorem checkL_zero {s:List UInt8} (h:checkL s=0):∃q:Rat,s=ratL q∧bigQ q=false:=by
  have hp:=(mkT_parts s).1
  obtain ⟨h1,_⟩:=checkT_zero (show checkT (isNeg s) (upTo 47 (unsig s)) (behind 47 (unsig s))=0 from h)
  refine ⟨_,hp.trans h1,?_⟩
  have:=checkL_ratL (valT (isNeg s) (upTo 47 (unsig s)) (behind 47 (unsig s)))
  rw [←hp.trans h1,h] at this
  split at this
  · cases this
  · rename_i h;simpa using h
theorem bigQ_rz {q:Rat} (h:bigQ q=false):rz q≤32:=by
  simp only [bigQ,bigZ,Bool.or_eq_false_iff,decide_eq_false_iff_not,Nat.not_lt] at h
  have h1:=zl_dec q.num h.1
  have h2:=zl_dec (q.den:Int) (by simpa using h.2)
  unfold rz;omega
-- axioms of checkL_zero
-- axioms of bigQ_rz
end Go.Ax
end
section
namespace Go.Ax
def Q (k:Nat) (q:Rat):Prop:=q.num.natAbs < 2 ^ k∧q.den < 2 ^ k
theorem Q_mono {a b:Nat} {q:Rat} (h:Q a q) (hab:a≤b):Q b q:=
  ⟨Nat.lt_of_lt_of_le h.1 (Nat.pow_le_pow_right (by decide) hab),Nat.lt_of_lt_of_le h.2 (Nat.pow_le_pow_right (by decide) hab)⟩
theorem Q_divInt {k:Nat} {n d:Int} (hd:d≠0) (h1:n.natAbs < 2 ^ k) (h2:d.natAbs < 2 ^ k):Q k (Rat.divInt n d):=
  ⟨Nat.lt_of_le_of_lt (divInt_le n d hd).1 h1,Nat.lt_of_le_of_lt (divInt_le n d hd).2 h2⟩
theorem Q_add {a b:Nat} {p q:Rat} (h:Q a p) (g:Q b q):Q (a+b+1) (p+q):=by
  have e:p+q=Rat.divInt (p.num*q.den+q.num*p.den) ((p.den:Int)*q.den):=by
    rw [Rat.add_def,Rat.normalize_eq_mkRat,←Int.natCast_mul];rfl
  rw [e]
  have d1:=p.den_pos
  have d2:=q.den_pos
  have m1:(p.num*q.den).natAbs < 2 ^ a*2 ^ b:=by rw [Int.natAbs_mul];exact Nat.mul_lt_mul'' h.1 g.2
  have m2:(q.num*p.den).natAbs < 2 ^ a*2 ^ b:=by rw [Int.natAbs_mul,Nat.mul_comm];exact Nat.mul_lt_mul'' h.2 g.1
  have m3:((p.den:Int)*q.den).natAbs < 2 ^ a*2 ^ b:=by rw [Int.natAbs_mul];exact Nat.mul_lt_mul'' h.2 g.2
  have e2:2 ^ (a+b+1)=2 ^ a*2 ^ b*2:=by rw [Nat.pow_succ,Nat.pow_add]
  refine Q_divInt (Int.mul_ne_zero (by omega) (by omega)) ?_ ?_ <;> rw [e2] <;> omega
theorem Q_mul {a b:Nat} {p q:Rat} (h:Q a p) (g:Q b q):Q (a+b) (p*q):=by
  have e:p*q=Rat.divInt (p.num*q.num) ((p.den:Int)*q.den):=by
    rw [Rat.mul_def,Rat.normalize_eq_mkRat,←Int.natCast_mul];rfl
  rw [e]
  have d1:=p.den_pos
  have d2:=q.den_pos
  refine Q_divInt (Int.mul_ne_zero (by omega) (by omega)) ?_ ?_
  · rw [Int.natAbs_mul,Nat.pow_add];exact Nat.mul_lt_mul'' h.1 g.1
  · rw [Int.natAbs_mul,Nat.pow_add];exact Nat.mul_lt_mul'' h.2 g.2
theorem Q_neg {a:Nat} {p:Rat} (h:Q a p):Q a (-p):=by
  unfold Q;rw [Rat.neg_num,Rat.neg_den,Int.natAbs_neg];exact h
theorem Q_sub {a b:Nat} {p q:Rat} (h:Q a p) (g:Q b q):Q (a+b+1) (p - q):=by
  rw [Rat.sub_eq_add_neg];exact Q_add h (Q_neg g)
theorem Q_inv {a:Nat} {p:Rat} (h:Q a p):Q a p⁻¹:=by
  by_cases h0:p=0
  · subst h0;rw [Rat.inv_zero];exact h
  · have:p.num≠0:=fun e=>h0 (Rat.num_eq_zero.1 e)
    rw [Rat.inv_def]
    exact Q_divInt this (by simpa using h.2) h.1
theorem Q_div {a b:Nat} {p q:Rat} (h:Q a p) (g:Q b q):Q (a+b) (p / q):=by
  rw [Rat.div_def];exact Q_mul h (Q_inv g)
theorem Q_int {k:Nat} {z:Int} (h:z.natAbs < 2 ^ (k+1)):Q (k+1) (z:Rat):=
  ⟨by rw [Rat.num_intCast];exact h,by rw [Rat.den_intCast];exact Nat.one_lt_two_pow (by omega)⟩
theorem Q_i64 {z:Int} (h1:-9223372036854775808≤z) (h2:z≤9223372036854775807):Q 64 (z:Rat):=
  Q_int (k := 63) (by have : 2 ^ (63 + 1) = 18446744073709551616 := by decide
                      omega)
theorem Q_zero:Q 1 (0:Rat):=⟨by decide,by decide⟩
theorem Q_one:Q 1 (1:Rat):=⟨by decide,by decide⟩
theorem zl_two {z:Int} {k:Nat} (h:z.natAbs < 2 ^ k):zl z≤k:=zl_le (Nat.lt_of_lt_of_le h (Nat.pow_le_pow_left (by decide) k))
theorem Q_zl {k:Nat} {q:Rat} (h:Q k q):zl q.num≤k∧zl (q.den:Int)≤k:=⟨zl_two h.1,zl_two (by simpa using h.2)⟩
theorem Q_rz {k:Nat} {q:Rat} (h:Q k q):rz q≤k:=by
  have:=Q_zl h
  unfold rz;omega
theorem rz_of {k K:Nat} {q:Rat} (h:Q k q) (hk:Nat.ble k K=true):rz q≤K:=Nat.le_trans (Q_rz h) (Nat.le_of_ble_eq_true hk)
theorem Q_of {k K:Nat} {q:Rat} (h:Q k q) (hk:Nat.ble k K=true):Q K q:=Q_mono h (Nat.le_of_ble_eq_true hk)
theorem ten_two (n:Nat):10 ^ n≤2 ^ (4*n):=by rw [Nat.pow_mul];exact Nat.pow_le_pow_left (by decide) n
theorem ten_two_lt {m n:Nat} (h:m < n):10 ^ m < 2 ^ (4*n):=Nat.lt_of_lt_of_le (Nat.pow_lt_pow_right (by decide) h) (ten_two n)
theorem eight_ten (n:Nat):2 ^ (3*n)≤10 ^ n:=by rw [Nat.pow_mul];exact Nat.pow_le_pow_left (by decide) n
theorem nat_lt {v k:Nat} (h:v < 2 ^ k):((v:Nat):Int).natAbs < 2 ^ k:=by rw [Int.natAbs_natCast];exact h
theorem valD_bits {l:List UInt8} {n:Nat} (h:isD l) (hl:l.length≤n):valD l < 2 ^ (4*n):=
  Nat.lt_of_lt_of_le (valD_lt h) (Nat.le_trans (Nat.pow_le_pow_right (by decide) hl) (ten_two n))
theorem Q_dec {n:Nat} {q:Rat} (h1:(Lib.decDigits q.num.natAbs).length≤n) (h2:(Lib.decDigits q.den).length≤n):Q (4*n) q:=by
  have e:10 ^ n≤2 ^ (4*n):=by rw [Nat.pow_mul];exact Nat.pow_le_pow_left (by decide) n
  exact ⟨Nat.lt_of_lt_of_le (le_dec_len h1) e,Nat.lt_of_lt_of_le (le_dec_len h2) e⟩
theorem bigQ_Q {q:Rat} (h:bigQ q=false):Q 2400 q:=by
  simp only [bigQ,bigZ,Bool.or_eq_false_iff,decide_eq_false_iff_not] at h
  exact Q_dec (n:=600) (by omega) (by omega)
end Go.Ax
end
section
namespace Go.Ax
open Go.RowKit (Below)
def rowS (ls:List ByteArray) (i:Nat):List Leaf:=if i < ls.length then [.v (.string (ls.getD i ⟨#[]⟩))] else [.u]
theorem rowS_lt {ls:List ByteArray} {i:Nat} (h:i < ls.length):rowS ls i= [.v (.string (ls.getD i ⟨#[]⟩))]:=if_pos h
theorem rowS_cl {ls:List ByteArray} {n:Nat} (i:Nat):clL n (rowS ls i):=by
  unfold rowS;split <;> exact ⟨trivial,trivial⟩
variable {c:Ctx} {Q:Exit→St→Prop} {st:St}
theorem getDS_left {l l':List ByteArray} {i:Nat} (h:i < l.length):(l++l').getD i ⟨#[]⟩=l.getD i ⟨#[]⟩:=by
  simp [List.getD_eq_getElem?_getD,List.getElem?_append_left h]
theorem getDS_right {l l':List ByteArray} {i:Nat} (h:¬i < l.length):(l++l').getD i ⟨#[]⟩=l'.getD (i - l.length) ⟨#[]⟩:=by
  simp [List.getD_eq_getElem?_getD,List.getElem?_append_right (Nat.le_of_not_lt h)]
theorem outK_appS {ops:Array Oper} {K:St→Prop} {ps:List Prop} {o:Oper} {rest:List Oper} {sh:List Sh} (hc:CtxOk c) (b n cc:Nat) (ls:List ByteArray) (d:ByteArray) {x y:Operand} {T:TypeId} {bytes:Nat} {zs:List Value} {g':Nat→List Leaf}
    (ho:appOf o=some (x,y,T)) (ht:sliceOf c.tt T=some (1,bytes,zs)) (hb:Nat.ble c.nb0 b=true) (hx:evAt st.t x= .one (.gr b 1 n cc)) (hy:evAt st.t y= .one (.row 1 1 g')) (hg:g' 0= [.v (.string d)])
    (hbox:(ls= []∧cc=0)∨∃ro,st.h b=some ⟨1,cc,rowS ls,ro⟩) (hls:ls.length=n) (hn:n≤cc) (h63:n≤1000000000000) (hbytes:bytes≤100) (hp:AllP ps)
    (h:∀c',n+1≤c'→OutK c.P c.G c.ns ops (HandS c ops K) (absGo c.tt c.ns ops rest (st.appG o.dst b 1 (n+1) c' (rowS (ls++ [d]))) [] []) fun st' _=>K st'):OutK c.P c.G c.ns ops (HandS c ops K) (.hand ps o rest st sh) fun st' _=>K st':=by
  have hm:(n+1)*bytes≤(1000000000000+1)*100:=Nat.mul_le_mul (by omega) hbytes
  refine outK_app hc b n cc 1 (rowS ls) (fun i=> [.v (.string ([d].getD i ⟨#[]⟩))]) ho ht (Nat.le_of_ble_eq_true hb) (hx ▸ Sub.refl _) ?_ hn ?_ (fun i _=>rowS_cl i) Nat.zero_lt_one (by omega) (by omega) hp fun c' hc'=>?_
  · rw [hy]
    rintro E w v ⟨_,h⟩
    refine ⟨rfl,h.imp id ?_⟩
    rintro ⟨b,o,c,h1,h2,h3,h4⟩
    refine ⟨b,o,c,h1,h2,h3,fun i hi=>?_⟩
    obtain rfl:i=0:=by omega
    have:=h4 0 hi
    rw [hg] at this
    exact this
  · rcases hbox with ⟨h1,h2⟩|h
    · subst h1;exact .inl ⟨hls.symm,h2⟩
    · exact .inr h
  · have e:(fun i=>if i < n then rowS ls i else if i < n+1 then (fun i=> [Leaf.v (.string ([d].getD i ⟨#[]⟩))]) (i - n) else List.replicate 1 .u)=rowS (ls++ [d]):=by
      funext i
      unfold rowS
      rw [List.length_append,hls]
      by_cases h1:i < n
      · rw [if_pos h1,if_pos h1,if_pos (by simp;omega),getDS_left (by omega)]
      · rw [if_neg h1]
        by_cases h2:i < n+1
        · rw [if_pos h2,if_pos (by simpa using h2),getDS_right (by omega),hls]
        · rw [if_neg h2,if_neg (by simpa using h2)];rfl
    have:=h c' hc'
    have e2:st.app o.dst b 1 n 1 c' (rowS ls) (fun i=> [.v (.string ([d].getD i ⟨#[]⟩))])=st.appG o.dst b 1 (n+1) c' (rowS (ls++ [d])):=by
      unfold St.app
      rw [e]
    rw [e2]
    exact this
theorem boxesOk_rowS {nb b cc:Nat} {A B:List ByteArray} (h:A=B) (hb:Nat.ble (b+1) nb=true):BoxesOk nb [(b,some ⟨1,cc,rowS A,true⟩,⟨1,cc,rowS B,true⟩)]:=by
  subst h
  exact boxesOk_cons_t hb (fun i _=>rowS_cl i) rfl (fun _ _=>rfl) boxesOk_nil
theorem Wp_cut {x y z:Code} (R:St→Prop) (h1:Wp c x (Nxt (Wp c y (Nxt R Q)) Q) st) (h2:∀st,R st→Wp c z Q st):Wp c x (Nxt (Wp c (.seq y z) Q) Q) st:=by
  refine h1.mono fun e st h=>?_
  cases e with
  | normal =>
    refine Wp_seq (Wp.mono h fun e st h=>?_)
    cases e with
    | normal=>exact h2 st h
    | _=>exact h
  | _=>exact h
theorem vals_of_len {l:List Value} {n:Nat} (h:l.length=n):l=(List.range n).map fun i=>l.getD i undef:=by
  apply List.ext_getElem
  · simp [h]
  · intro i h1 h2
    simp [List.getD_eq_getElem?_getD,List.getElem?_eq_getElem h1]
def lastSt (st:St) (d:Nat) (v:Value):St:={ t:=fun n=>if n=d then .one (.v v) else .u,h:=fun _=>none,nb:=st.nb }
theorem SR.last {E:Env} {a a':Act} {w w':World} (s:SR c st E a w) {d:Nat} {v:Value} (hsz:a'.tmps.size=c.N) (hd:a'.defers=c.defs) (hv:a'.tmps.getD d undef=v) (h1:v.oneCell'=true) (hb:Below w.heap.size w w'):SR c (lastSt st d v) E a' w' where
  size:=hsz
  defers:=hd
  slots:=fun n=>by
    unfold lastSt
    dsimp only
    split
    · rename_i h;subst h;exact ⟨rfl,by rw [hv],h1⟩
    · trivial
  boxes:=fun _ _ h=>by cases h
  env:=s.env.below hb.size
  below:=s.below.below hb s.below.size
  own:=s.own
  low:=s.low
  m:=s.m
  free:=s.free
theorem SR.texts {E:Env} {a:Act} {w:World} (s:SR c st E a w) {t b n cc:Nat} {ls:List ByteArray} {ro:Bool} (ht:st.t t= .one (.gr b 1 n cc)) (hbox:st.h b=some ⟨1,cc,rowS ls,ro⟩) (hls:ls.length=n) (hn:n≤cc) (h0:0 < n) :
    ∃k,a.tmps.getD t undef= .slice (some ⟨k,0,none⟩) n cc∧k < w.heap.size∧∀i,i < n→w.cell? ⟨k,i,none⟩=some (.string (ls.getD i ⟨#[]⟩)):=by
  have hs:=s.slots t
  rw [ht] at hs
  obtain ⟨_,hs|⟨k,hk,hs⟩⟩:=hs
  · omega
  simp only [List.cons.injEq,and_true] at hs
  refine ⟨k,hs,s.env.r b k hk,fun i hi=>?_⟩
  rcases s.boxes b _ hbox with ⟨_,h0⟩|⟨k',cs,T,h1,h2,h3,h4⟩
  · dsimp only at h0;omega
  rw [hk] at h1
  cases h1
  obtain ⟨es,e1,e2,e3⟩:=h4 i (show i < cc by omega)
  dsimp only at e2 e3
  rw [rowS_lt (by omega)] at e2
  obtain ⟨xs,ys,rfl,⟨rfl,_⟩,rfl⟩:=e2
  have:=e3 0 _ rfl
  simp only [Nat.mul_one,Nat.add_zero] at this
  simp [World.cell?,h2,this]
end Go.Ax
end
