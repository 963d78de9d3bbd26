/- Lemmas on the program and its library: part UR. -/
import Derived.Test.YtoiejgkkcfkliaaGreatDoorUW
import Derived.Test.YtoiejgkkcfkliaaGreatDoorZL3
set_option linter.unusedVariables false
set_option linter.unusedSimpArgs false
section
namespace Go.Proofs
open Go.Ax
end Go.Proofs
end
section
set_option maxHeartbeats 4000000
set_option maxRecDepth 100000
namespace Go.Proofs
open Go.Ax
theorem b90 (ls:List (List UInt8)) (n:Nat) (hn:n=ls.length) (hl:∀l∈ls,l.length≤900000) (hl2:ls.length≤1000000):Ax.Pure Tryz.prog G 63 [rowT ls n] (N (a1e ls)):=by
  have c_c:∀i:Nat,i < ls.length→Ax.Pure Tryz.prog G 21 [S (bs (ls.getD i []))] (N (a0a (ls.getD i []))):=fun i hi=>
    d89 _ (hl _ (by rw [List.getD_eq_getElem?_getD,List.getElem?_eq_getElem hi];exact List.getElem_mem hi))
  refine r8 Tryz.func63 rfl Tryz.ntmps63 ?_
  intro w0 E0 hc
  repeat' (first|refine n7 hc Tryz.results63 ?_|(with_reducible first|exact trivial|refine j3 ?_ ?_|refine m8 (fun h=>?_)|fail)|(omega;done))
  refine m9 (α:=Nat) (fun i=>n5 [(0,rowT ls n),(3,N i)] [] 0) (fun i=>i≤ls.length∧a1e ls=a1e (ls.drop i)) (fun i=>ls.length - i) 0 ⟨Nat.zero_le _,rfl⟩ ?_ ?_
  · refine zW1 ?_ <;> repeat' (with_reducible first|exact trivial|refine j3 ?_ ?_|refine t7 (fun i hi=>?_))
  · rintro i ⟨h1,h2⟩
    have hd:=fun h:i < ls.length=>c10 h
    have c_ci:=c_c i
    repeat' (first|refine n7 hc Tryz.results63 ?_|(with_reducible first|exact trivial|refine j3 ?_ ?_|refine m8 (fun h=>?_)|refine c9 (c_ci ?_) ?_ ?_|fail)|((first|omega|(simp only [Int.toNat_natCast];omega));done))
    · have hd':=hd (by omega)
      rw [if_neg h] at hd'
      exact j6 (by rw [h2,hd'])
    · have hd':=hd (by omega)
      rw [if_pos h] at hd'
      refine ⟨i+1,⟨by omega,by rw [h2,hd']⟩,by omega,?_⟩
      refine zW1 ?_ <;> repeat' (with_reducible first|exact trivial|refine j3 ?_ ?_|refine t7 (fun i hi=>?_))
    · have:ls.length≤i:=by omega
      rw [List.drop_eq_nil_of_le this] at h2
      exact j6 (by rw [h2];rfl)
theorem c6x (a b c:List UInt8) (ha:a.length≤900000) (hb:b.length≤900000) (hc:c.length≤900000):Ax.Pure Tryz.prog G 63 [.one (.row 1 3 (fun i=> [[i7.v (.string (bs a))],[i7.v (.string (bs b))],[i7.v (.string (bs c))]].getD i []))] (N (a1e [a,b,c])):=
  w8 (b90 [a,b,c] 3 rfl (mem3 ha hb hc) (show 3≤1000000 by decide)) ⟨a1t (b8u rfl rfl rfl),trivial⟩ ⟨trivial,trivial⟩
theorem a69 (a b c:List UInt8) (ha:a.length≤900000) (hb:b.length≤900000) (hc':c.length≤900000):Ax.Pure Tryz.prog G 39 [tV a b c] (N (a1e [a,b,c])):=by
  have c_c:=c6x a b c ha hb hc'
  refine r8 Tryz.func39 rfl Tryz.ntmps39 ?_
  intro w0 E0 hc
  repeat' (first|refine n7 hc Tryz.results39 ?_|(with_reducible first|exact trivial|refine j3 ?_ ?_|refine m8 (fun h=>?_)|refine c9 c_c ?_ ?_|fail)|(omega;done))
def c5m (qs:List Rat):Bool:=qs.any y4
theorem d1u {qs:List Rat} {i:Nat} (h:i < qs.length):c5m (qs.drop i)=(y4 (qs.getD i 0) || c5m (qs.drop (i+1))):=by
  unfold c5m
  rw [List.drop_eq_getElem_cons h,List.any_cons,List.getD_eq_getElem?_getD,List.getElem?_eq_getElem h];rfl
abbrev rowQ (qs:List Rat) (n:Nat):AV:=.one (.row 1 n (fun i=> [.v (.string (bs (c5 (qs.getD i 0))))]))
theorem c82 {k:Nat} (hk:k≤1000000) (qs:List Rat) (n:Nat) (hn:n=qs.length) (hl:∀q∈qs,Q k q) (hl2:qs.length≤1000000):Ax.Pure Tryz.prog G 234 [rowQ qs n] (N (if c5m qs=true then 4 else 0)):=by
  have c_c:∀i:Nat,i < qs.length→Ax.Pure Tryz.prog G 140 [S (bs (c5 (qs.getD i 0)))] (N (if y4 (qs.getD i 0)=true then 4 else 0)):=fun i hi=>
    d05 _ (hl _ (by rw [List.getD_eq_getElem?_getD,List.getElem?_eq_getElem hi];exact List.getElem_mem hi)) hk
  refine r8 Tryz.func234 rfl Tryz.ntmps234 ?_
  intro w0 E0 hc
  repeat' (first|refine n7 hc Tryz.results234 ?_|(with_reducible first|exact trivial|refine j3 ?_ ?_|refine m8 (fun h=>?_)|fail)|(omega;done))
  refine m9 (α:=Nat) (fun i=>n5 [(0,rowQ qs n),(3,N i)] [] 0) (fun i=>i≤qs.length∧c5m qs=c5m (qs.drop i)) (fun i=>qs.length - i) 0 ⟨Nat.zero_le _,rfl⟩ ?_ ?_
  · refine zW1 ?_ <;> repeat' (with_reducible first|exact trivial|refine j3 ?_ ?_|refine t7 (fun i hi=>?_))
  · rintro i ⟨h1,h2⟩
    have hd:=fun h:i < qs.length=>d1u h
    have c_ci:=c_c i
    cases hb:y4 (qs.getD i 0)
    · rw [hb] at c_ci hd
      simp only [Bool.false_eq_true,if_false,Bool.false_or] at c_ci hd
      repeat' (first|refine n7 hc Tryz.results234 ?_|(with_reducible first|exact trivial|refine j3 ?_ ?_|refine m8 (fun h=>?_)|refine c9 (c_ci ?_) ?_ ?_|fail)|((first|omega|(simp only [Int.toNat_natCast];omega));done))
      · refine ⟨i+1,⟨by omega,by rw [h2,hd (by omega)]⟩,by omega,?_⟩
        refine zW1 ?_ <;> repeat' (with_reducible first|exact trivial|refine j3 ?_ ?_|refine t7 (fun i hi=>?_))
      · have:qs.length≤i:=by omega
        rw [List.drop_eq_nil_of_le this] at h2
        rw [h2];exact Sub.refl _
    · rw [hb] at c_ci hd
      simp only [if_true,Bool.true_or] at c_ci hd
      repeat' (first|refine n7 hc Tryz.results234 ?_|(with_reducible first|exact trivial|refine j3 ?_ ?_|refine m8 (fun h=>?_)|refine c9 (c_ci ?_) ?_ ?_|fail)|((first|omega|(simp only [Int.toNat_natCast];omega));done))
      · rw [h2,hd (by omega)];exact Sub.refl _
      · have:qs.length≤i:=by omega
        rw [List.drop_eq_nil_of_le this] at h2
        rw [h2];exact Sub.refl _
theorem mem3Q {P:Rat→Prop} {a b c:Rat} (ha:P a) (hb:P b) (hc:P c):∀q∈[a,b,c],P q:=fun q h=>by
  simp only [List.mem_cons,List.not_mem_nil,or_false] at h
  rcases h with rfl|rfl|rfl
  · exact ha
  · exact hb
  · exact hc
theorem bigL3 (a b c:Rat):c5m [a,b,c]=a1i a b c:=by
  unfold c5m a1i
  simp [Bool.or_assoc]
theorem c6z {k:Nat} (hk:k≤1000000) (a b c:Rat) (ha:Q k a) (hb:Q k b) (hc:Q k c):Ax.Pure Tryz.prog G 234 [.one (.row 1 3 (fun i=> [[i7.v (.string (bs (c5 a)))],[i7.v (.string (bs (c5 b)))],[i7.v (.string (bs (c5 c)))]].getD i []))] (N (if a1i a b c=true then 4 else 0)):=
  bigL3 a b c ▸ w8 (c82 hk [a,b,c] 3 rfl (mem3Q ha hb hc) (show 3≤1000000 by decide)) ⟨a1t (b8u rfl rfl rfl),trivial⟩ ⟨trivial,trivial⟩
theorem b0e {k:Nat} (hk:k≤1000000) (a b c:Rat) (ha:Q k a) (hb:Q k b) (hc':Q k c):Ax.Pure Tryz.prog G 175 [tV (c5 a) (c5 b) (c5 c)] (N (if a1i a b c=true then 4 else 0)):=by
  have c_c:=c6z hk a b c ha hb hc'
  refine r8 Tryz.func175 rfl Tryz.ntmps175 ?_
  intro w0 E0 hc
  repeat' (first|refine n7 hc Tryz.results175 ?_|(with_reducible first|exact trivial|refine j3 ?_ ?_|refine m8 (fun h=>?_)|refine c9 c_c ?_ ?_|fail)|(omega;done))
end Go.Proofs
end
section
set_option maxHeartbeats 4000000
set_option maxRecDepth 100000
namespace Go.Proofs
open Go.Ax
theorem d58 (b:Bool) (e:Int):Ax.Pure Tryz.prog G 64 [Bo b,N e] (N (if b=true then e else 0)):=by
  refine r8 Tryz.func64 rfl Tryz.ntmps64 ?_
  intro w0 E0 hc
  cases b
  · repeat' (first|refine n7 hc Tryz.results64 ?_|(with_reducible first|exact trivial|refine j3 ?_ ?_|refine m8 (fun h=>?_)|fail)|(omega;done))
    all_goals exact Sub.refl _
  · repeat' (first|refine n7 hc Tryz.results64 ?_|(with_reducible first|exact trivial|refine j3 ?_ ?_|refine m8 (fun h=>?_)|fail)|(omega;done))
    all_goals exact Sub.refl _
def b2q (n:Nat) (ls:List V3):Bool:=ls.all fun v=>decide (shV n v)
theorem d3f {n:Nat} {ls:List V3} {i:Nat} (h:i < ls.length):b2q n (ls.drop i)=(decide (shV n (ls.getD i ([],[],[]))) && b2q n (ls.drop (i+1))):=by
  unfold b2q
  rw [List.drop_eq_getElem_cons h,List.all_cons,List.getD_eq_getElem?_getD,List.getElem?_eq_getElem h];rfl
theorem d8v (n m:Nat) (ls:List V3) (hm:m=ls.length) (hn:n≤1000) (hl2:ls.length≤1000000):Ax.Pure Tryz.prog G 36 [N n,c66 ls m] (Bo (b2q n ls)):=by
  refine r8 Tryz.func36 rfl Tryz.ntmps36 ?_
  intro w0 E0 hc
  repeat' (first|refine n7 hc Tryz.results36 ?_|(with_reducible first|exact trivial|refine j3 ?_ ?_|refine m8 (fun h=>?_)|fail)|(omega;done))
  refine m9 (α:=Nat) (fun i=>n5 [(0,N n),(1,c66 ls m),(5,N i)] [] 0) (fun i=>i≤ls.length∧b2q n ls=b2q n (ls.drop i)) (fun i=>ls.length - i) 0 ⟨Nat.zero_le _,rfl⟩ ?_ ?_
  · refine zW1 ?_ <;> repeat' (with_reducible first|exact trivial|refine j3 ?_ ?_|refine t7 (fun i hi=>?_))
  · rintro i ⟨h1,h2⟩
    have hd:=fun h:i < ls.length=>d3f (n:=n) h
    have s1:=m6 (ls.getD i ([],[],[])).1
    have s2:=m6 (ls.getD i ([],[],[])).2.1
    have s3:=m6 (ls.getD i ([],[],[])).2.2
    have hT:i < ls.length→(ls.getD i ([],[],[])).1.length≤n→(ls.getD i ([],[],[])).2.1.length≤n→(ls.getD i ([],[],[])).2.2.length≤n→b2q n ls=b2q n (ls.drop (i+1)):=fun h a b c=>by
      rw [h2,hd h,decide_eq_true (show shV n _ from ⟨a,b,c⟩)];rfl
    have hF:i < ls.length→¬((ls.getD i ([],[],[])).1.length≤n∧(ls.getD i ([],[],[])).2.1.length≤n∧(ls.getD i ([],[],[])).2.2.length≤n)→b2q n ls=false:=fun h a=>by
      rw [h2,hd h,decide_eq_false (show ¬shV n _ from a)];rfl
    have hE:¬i < ls.length→b2q n ls=true:=fun h=>by
      rw [h2,List.drop_eq_nil_of_le (by omega)];rfl
    repeat' (first|refine n7 hc Tryz.results36 ?_|(with_reducible first|exact trivial|refine j3 ?_ ?_|refine m8 (fun h=>?_)|fail)|(omega;done))
    · rw [hF (by omega) (by omega)];exact Sub.refl _
    · refine ⟨i+1,⟨by omega,hT (by omega) (by omega) (by omega) (by omega)⟩,by omega,?_⟩
      refine zW1 ?_ <;> repeat' (with_reducible first|exact trivial|refine j3 ?_ ?_|refine t7 (fun i hi=>?_))
    · rw [hF (by omega) (by omega)];exact Sub.refl _
    · rw [hF (by omega) (by omega)];exact Sub.refl _
    · rw [hE (by omega)];exact Sub.refl _
theorem d57 (n:Nat) (hn:n≤1000) (a b c d:V3):Ax.Pure Tryz.prog G 36 [N n,.one (.row 3 4 (fun i=> [a3r a,a3r b,a3r c,a3r d].getD i []))] (Bo (b2q n [a,b,c,d])):=
  w8 (d8v n 4 [a,b,c,d] rfl hn (show 4≤1000000 by decide)) ⟨Sub.refl _,a1t (b5k rfl rfl rfl rfl),trivial⟩ ⟨trivial,trivial,trivial⟩
theorem d0s (n:Nat) (hn:n≤1000) (a b c d:V3):Ax.Pure Tryz.prog G 27 [N n,txF a b c d] (Bo (b2q n [a,b,c,d])):=by
  have c_s:=d57 n hn a b c d
  refine r8 Tryz.func27 rfl Tryz.ntmps27 ?_
  intro w0 E0 hc
  repeat' (first|refine n7 hc Tryz.results27 ?_|(with_reducible first|exact trivial|refine j3 ?_ ?_|refine m8 (fun h=>?_)|refine c9 c_s ?_ ?_|fail)|(omega;done))
end Go.Proofs
end
section
set_option maxHeartbeats 4000000
set_option maxRecDepth 100000
namespace Go.Proofs
open Go.Ax
theorem b7o:(⟨#[48]⟩:ByteArray)=bs (c5 0):=by rw [a3n]
theorem d6h:(⟨#[49]⟩:ByteArray)=bs (c5 1):=by
  have:c5 1= [49]:=by
    unfold c5 r6
    rw [if_pos (by rfl),if_neg (by decide)]
    exact b19
  rw [this]
theorem b1k {k:Nat} (hk:k≤1000000) (a1 a2 a3 b1 b2 b3:Rat) (qa:Q k a1∧Q k a2∧Q k a3) (qb:Q k b1∧Q k b2∧Q k b3):Ax.Pure Tryz.prog G 84 [tV (c5 a1) (c5 a2) (c5 a3),tV (c5 b1) (c5 b2) (c5 b3)] (tV (c5 (a1+b1)) (c5 (a2+b2)) (c5 (a3+b3))):=by
  obtain ⟨qa1,qa2,qa3⟩:=qa
  obtain ⟨qb1,qb2,qb3⟩:=qb
  have c_1:=b32 a1 b1 qa1 qb1 hk
  have c_2:=b32 a2 b2 qa2 qb2 hk
  have c_3:=b32 a3 b3 qa3 qb3 hk
  refine r8 Tryz.func84 rfl Tryz.ntmps84 ?_
  intro w0 E0 hc
  repeat' (first|refine n7 hc Tryz.results84 ?_|(with_reducible first|exact trivial|refine j3 ?_ ?_|refine m8 (fun h=>?_)|refine c9 c_1 ?_ ?_|refine c9 c_2 ?_ ?_|refine c9 c_3 ?_ ?_|fail)|(omega;done))
theorem b5j {k:Nat} (hk:k≤1000000) (a1 a2 a3 b1 b2 b3:Rat) (qa:Q k a1∧Q k a2∧Q k a3) (qb:Q k b1∧Q k b2∧Q k b3):Ax.Pure Tryz.prog G 58 [tV (c5 a1) (c5 a2) (c5 a3),tV (c5 b1) (c5 b2) (c5 b3)] (tV (c5 (a1 - b1)) (c5 (a2 - b2)) (c5 (a3 - b3))):=by
  obtain ⟨qa1,qa2,qa3⟩:=qa
  obtain ⟨qb1,qb2,qb3⟩:=qb
  have c_1:=b72 a1 b1 qa1 qb1 hk
  have c_2:=b72 a2 b2 qa2 qb2 hk
  have c_3:=b72 a3 b3 qa3 qb3 hk
  refine r8 Tryz.func58 rfl Tryz.ntmps58 ?_
  intro w0 E0 hc
  repeat' (first|refine n7 hc Tryz.results58 ?_|(with_reducible first|exact trivial|refine j3 ?_ ?_|refine m8 (fun h=>?_)|refine c9 c_1 ?_ ?_|refine c9 c_2 ?_ ?_|refine c9 c_3 ?_ ?_|fail)|(omega;done))
theorem b0f {k:Nat} (hk:k≤1000000) (c:Rat) (a1 a2 a3:Rat) (qc:Q k c) (qa:Q k a1∧Q k a2∧Q k a3):Ax.Pure Tryz.prog G 112 [S (bs (c5 c)),tV (c5 a1) (c5 a2) (c5 a3)] (tV (c5 (c*a1)) (c5 (c*a2)) (c5 (c*a3))):=by
  obtain ⟨qa1,qa2,qa3⟩:=qa
  have c_1:=a3v c a1 qc qa1 hk
  have c_2:=a3v c a2 qc qa2 hk
  have c_3:=a3v c a3 qc qa3 hk
  refine r8 Tryz.func112 rfl Tryz.ntmps112 ?_
  intro w0 E0 hc
  repeat' (first|refine n7 hc Tryz.results112 ?_|(with_reducible first|exact trivial|refine j3 ?_ ?_|refine m8 (fun h=>?_)|refine c9 c_1 ?_ ?_|refine c9 c_2 ?_ ?_|refine c9 c_3 ?_ ?_|fail)|(omega;done))
theorem b5f {k:Nat} (hk:k≤200000) (a1 a2 a3 b1 b2 b3:Rat) (qa:Q k a1∧Q k a2∧Q k a3) (qb:Q k b1∧Q k b2∧Q k b3):Ax.Pure Tryz.prog G 76 [tV (c5 a1) (c5 a2) (c5 a3),tV (c5 b1) (c5 b2) (c5 b3)] (S (bs (c5 (c7 a1 a2 a3 b1 b2 b3)))):=by
  obtain ⟨qa1,qa2,qa3⟩:=qa
  obtain ⟨qb1,qb2,qb3⟩:=qb
  have c_1:=a3v a1 b1 qa1 qb1 (by omega)
  have m1:=c6 qa1 qb1
  have c_2:=a3v a2 b2 qa2 qb2 (by omega)
  have m2:=c6 qa2 qb2
  have c_3:=a3v a3 b3 qa3 qb3 (by omega)
  have m3:=c6 qa3 qb3
  have c_4:=b32 (a1*b1) (a2*b2) m1 m2 (by omega)
  have c_5:Ax.Pure Tryz.prog G 59 [S (bs (c5 (a1*b1+a2*b2))),S (bs (c5 (a3*b3)))] (S (bs (c5 (c7 a1 a2 a3 b1 b2 b3)))):=b32 (a1*b1+a2*b2) (a3*b3) (f0 m1 m2) (a07 m3 (by omega)) (by omega)
  refine r8 Tryz.func76 rfl Tryz.ntmps76 ?_
  intro w0 E0 hc
  repeat' (first|refine n7 hc Tryz.results76 ?_|(with_reducible first|exact trivial|refine j3 ?_ ?_|refine m8 (fun h=>?_)|refine c9 c_1 ?_ ?_|refine c9 c_2 ?_ ?_|refine c9 c_3 ?_ ?_|refine c9 c_4 ?_ ?_|refine c9 c_5 ?_ ?_|fail)|(omega;done))
theorem d04 {k:Nat} (hk:k≤200000) (a1 a2 a3 b1 b2 b3:Rat) (qa:Q k a1∧Q k a2∧Q k a3) (qb:Q k b1∧Q k b2∧Q k b3):Ax.Pure Tryz.prog G 78 [tV (c5 a1) (c5 a2) (c5 a3),tV (c5 b1) (c5 b2) (c5 b3)] (tV (c5 (a2*b3 - a3*b2)) (c5 (a3*b1 - a1*b3)) (c5 (a1*b2 - a2*b1))):=by
  obtain ⟨qa1,qa2,qa3⟩:=qa
  obtain ⟨qb1,qb2,qb3⟩:=qb
  have c_m12:=a3v a1 b2 qa1 qb2 (by omega)
  have m12:=c6 qa1 qb2
  have c_m13:=a3v a1 b3 qa1 qb3 (by omega)
  have m13:=c6 qa1 qb3
  have c_m21:=a3v a2 b1 qa2 qb1 (by omega)
  have m21:=c6 qa2 qb1
  have c_m23:=a3v a2 b3 qa2 qb3 (by omega)
  have m23:=c6 qa2 qb3
  have c_m31:=a3v a3 b1 qa3 qb1 (by omega)
  have m31:=c6 qa3 qb1
  have c_m32:=a3v a3 b2 qa3 qb2 (by omega)
  have m32:=c6 qa3 qb2
  have c_s23:=b72 (a2*b3) (a3*b2) m23 m32 (by omega)
  have c_s31:=b72 (a3*b1) (a1*b3) m31 m13 (by omega)
  have c_s12:=b72 (a1*b2) (a2*b1) m12 m21 (by omega)
  refine r8 Tryz.func78 rfl Tryz.ntmps78 ?_
  intro w0 E0 hc
  repeat' (first|refine n7 hc Tryz.results78 ?_|(with_reducible first|exact trivial|refine j3 ?_ ?_|refine m8 (fun h=>?_)|refine c9 c_m12 ?_ ?_|refine c9 c_m13 ?_ ?_|refine c9 c_m21 ?_ ?_|refine c9 c_m23 ?_ ?_|refine c9 c_m31 ?_ ?_|refine c9 c_m32 ?_ ?_|refine c9 c_s23 ?_ ?_|refine c9 c_s31 ?_ ?_|refine c9 c_s12 ?_ ?_|fail)|(omega;done))
theorem b5i {k:Nat} (hk:k≤200000) (a1 a2 a3:Rat) (qa:Q k a1∧Q k a2∧Q k a3):Ax.Pure Tryz.prog G 57 [tV (c5 a1) (c5 a2) (c5 a3)] (S (bs (c5 (c7 a1 a2 a3 a1 a2 a3)))):=by
  have c_d:=b5f hk a1 a2 a3 a1 a2 a3 qa qa
  refine r8 Tryz.func57 rfl Tryz.ntmps57 ?_
  intro w0 E0 hc
  repeat' (first|refine n7 hc Tryz.results57 ?_|(with_reducible first|exact trivial|refine j3 ?_ ?_|refine m8 (fun h=>?_)|refine c9 c_d ?_ ?_|fail)|(omega;done))
theorem r_Det {k:Nat} (hk:k≤40000) (a1 a2 a3 b1 b2 b3 c1 c2 c3:Rat) (qa:Q k a1∧Q k a2∧Q k a3) (qb:Q k b1∧Q k b2∧Q k b3) (qc:Q k c1∧Q k c2∧Q k c3):Ax.Pure Tryz.prog G 193 [tV (c5 a1) (c5 a2) (c5 a3),tV (c5 b1) (c5 b2) (c5 b3),tV (c5 c1) (c5 c2) (c5 c3)] (S (bs (c5 (c7 a1 a2 a3 (b2*c3 - b3*c2) (b3*c1 - b1*c3) (b1*c2 - b2*c1))))):=by
  have c_x:=d04 (by omega) b1 b2 b3 c1 c2 c3 qb qc
  obtain ⟨qa1,qa2,qa3⟩:=qa
  obtain ⟨qb1,qb2,qb3⟩:=qb
  obtain ⟨qc1,qc2,qc3⟩:=qc
  have x1:=j9 (c6 qb2 qc3) (c6 qb3 qc2)
  have x2:=j9 (c6 qb3 qc1) (c6 qb1 qc3)
  have x3:=j9 (c6 qb1 qc2) (c6 qb2 qc1)
  have c_d:=b5f (k:=k+k+(k+k)+1) (by omega) a1 a2 a3 (b2*c3 - b3*c2) (b3*c1 - b1*c3) (b1*c2 - b2*c1) ⟨a07 qa1 (by omega),a07 qa2 (by omega),a07 qa3 (by omega)⟩ ⟨x1,x2,x3⟩
  refine r8 Tryz.func193 rfl Tryz.ntmps193 ?_
  intro w0 E0 hc
  repeat' (first|refine n7 hc Tryz.results193 ?_|(with_reducible first|exact trivial|refine j3 ?_ ?_|refine m8 (fun h=>?_)|refine c9 c_x ?_ ?_|refine c9 c_d ?_ ?_|fail)|(omega;done))
theorem b92:Ax.Pure Tryz.prog G 89 [] (tV (c5 0) (c5 0) (c5 0)):=by
  refine r8 Tryz.func89 rfl Tryz.ntmps89 ?_
  intro w0 E0 hc
  repeat' (first|refine n7 hc Tryz.results89 ?_|(with_reducible first|exact trivial|refine j3 ?_ ?_|refine m8 (fun h=>?_)|fail)|(omega;done))
  all_goals rw [a3n];exact Sub.refl _
theorem b5e {k:Nat} (hk:k≤100000) (o1 o2 o3 x1 x2 x3 y1 y2 y3 z1 z2 z3 p1 p2 p3:Rat) (qx:Q k x1∧Q k x2∧Q k x3) (qy:Q k y1∧Q k y2∧Q k y3) (qz:Q k z1∧Q k z2∧Q k z3) (qp:Q k p1∧Q k p2∧Q k p3):Ax.Pure Tryz.prog G 151 [tF (c5 o1) (c5 o2) (c5 o3) (c5 x1) (c5 x2) (c5 x3) (c5 y1) (c5 y2) (c5 y3) (c5 z1) (c5 z2) (c5 z3),tV (c5 p1) (c5 p2) (c5 p3)] (tV (c5 (p1*x1+p2*y1+p3*z1)) (c5 (p1*x2+p2*y2+p3*z2)) (c5 (p1*x3+p2*y3+p3*z3))):=by
  have c_x:=b0f (k:=k) (by omega) p1 x1 x2 x3 qp.1 qx
  have c_y:=b0f (k:=k) (by omega) p2 y1 y2 y3 qp.2.1 qy
  have c_z:=b0f (k:=k) (by omega) p3 z1 z2 z3 qp.2.2 qz
  obtain ⟨qx1,qx2,qx3⟩:=qx
  obtain ⟨qy1,qy2,qy3⟩:=qy
  obtain ⟨qz1,qz2,qz3⟩:=qz
  obtain ⟨qp1,qp2,qp3⟩:=qp
  have c_a:=b1k (k:=k+k) (by omega) (p1*x1) (p1*x2) (p1*x3) (p2*y1) (p2*y2) (p2*y3) ⟨c6 qp1 qx1,c6 qp1 qx2,c6 qp1 qx3⟩ ⟨c6 qp2 qy1,c6 qp2 qy2,c6 qp2 qy3⟩
  have c_b:=b1k (k:=k+k+(k+k)+1) (by omega) (p1*x1+p2*y1) (p1*x2+p2*y2) (p1*x3+p2*y3) (p3*z1) (p3*z2) (p3*z3) ⟨f0 (c6 qp1 qx1) (c6 qp2 qy1),f0 (c6 qp1 qx2) (c6 qp2 qy2),f0 (c6 qp1 qx3) (c6 qp2 qy3)⟩ ⟨a07 (c6 qp3 qz1) (by omega),a07 (c6 qp3 qz2) (by omega),a07 (c6 qp3 qz3) (by omega)⟩
  refine r8 Tryz.func151 rfl Tryz.ntmps151 ?_
  intro w0 E0 hc
  repeat' (first|refine n7 hc Tryz.results151 ?_|(with_reducible first|exact trivial|refine j3 ?_ ?_|refine m8 (fun h=>?_)|refine c9 c_x ?_ ?_|refine c9 c_y ?_ ?_|refine c9 c_z ?_ ?_|refine c9 c_a ?_ ?_|refine c9 c_b ?_ ?_|fail)|(omega;done))
theorem d9a {k:Nat} (hk:k≤100000) (o1 o2 o3 x1 x2 x3 y1 y2 y3 z1 z2 z3 p1 p2 p3:Rat) (qo:Q k o1∧Q k o2∧Q k o3) (qx:Q k x1∧Q k x2∧Q k x3) (qy:Q k y1∧Q k y2∧Q k y3) (qz:Q k z1∧Q k z2∧Q k z3) (qp:Q k p1∧Q k p2∧Q k p3):Ax.Pure Tryz.prog G 95 [tF (c5 o1) (c5 o2) (c5 o3) (c5 x1) (c5 x2) (c5 x3) (c5 y1) (c5 y2) (c5 y3) (c5 z1) (c5 z2) (c5 z3),tV (c5 p1) (c5 p2) (c5 p3)] (tV (c5 (o1+(p1*x1+p2*y1+p3*z1))) (c5 (o2+(p1*x2+p2*y2+p3*z2))) (c5 (o3+(p1*x3+p2*y3+p3*z3)))):=by
  have c_d:=b5e hk o1 o2 o3 x1 x2 x3 y1 y2 y3 z1 z2 z3 p1 p2 p3 qx qy qz qp
  obtain ⟨qo1,qo2,qo3⟩:=qo
  obtain ⟨qx1,qx2,qx3⟩:=qx
  obtain ⟨qy1,qy2,qy3⟩:=qy
  obtain ⟨qz1,qz2,qz3⟩:=qz
  obtain ⟨qp1,qp2,qp3⟩:=qp
  have c_a:=b1k (k:=k+k+(k+k)+1+(k+k)+1) (by omega) o1 o2 o3 (p1*x1+p2*y1+p3*z1) (p1*x2+p2*y2+p3*z2) (p1*x3+p2*y3+p3*z3) ⟨a07 qo1 (by omega),a07 qo2 (by omega),a07 qo3 (by omega)⟩ ⟨f0 (f0 (c6 qp1 qx1) (c6 qp2 qy1)) (c6 qp3 qz1),f0 (f0 (c6 qp1 qx2) (c6 qp2 qy2)) (c6 qp3 qz2),f0 (f0 (c6 qp1 qx3) (c6 qp2 qy3)) (c6 qp3 qz3)⟩
  refine r8 Tryz.func95 rfl Tryz.ntmps95 ?_
  intro w0 E0 hc
  repeat' (first|refine n7 hc Tryz.results95 ?_|(with_reducible first|exact trivial|refine j3 ?_ ?_|refine m8 (fun h=>?_)|refine c9 c_d ?_ ?_|refine c9 c_a ?_ ?_|fail)|(omega;done))
theorem d2u {k:Nat} (hk:k≤200000) (o1 o2 o3 x1 x2 x3 y1 y2 y3 z1 z2 z3:Rat) (qx:Q k x1∧Q k x2∧Q k x3) (qy:Q k y1∧Q k y2∧Q k y3) (qz:Q k z1∧Q k z2∧Q k z3):Ax.Pure Tryz.prog G 71 [tF (c5 o1) (c5 o2) (c5 o3) (c5 x1) (c5 x2) (c5 x3) (c5 y1) (c5 y2) (c5 y3) (c5 z1) (c5 z2) (c5 z3)] (tV (c5 (c7 x1 x2 x3 x1 x2 x3)) (c5 (c7 y1 y2 y3 y1 y2 y3)) (c5 (c7 z1 z2 z3 z1 z2 z3))):=by
  have c_x:=b5i hk x1 x2 x3 qx
  have c_y:=b5i hk y1 y2 y3 qy
  have c_z:=b5i hk z1 z2 z3 qz
  refine r8 Tryz.func71 rfl Tryz.ntmps71 ?_
  intro w0 E0 hc
  repeat' (first|refine n7 hc Tryz.results71 ?_|(with_reducible first|exact trivial|refine j3 ?_ ?_|refine m8 (fun h=>?_)|refine c9 c_x ?_ ?_|refine c9 c_y ?_ ?_|refine c9 c_z ?_ ?_|fail)|(omega;done))
theorem b8p {k:Nat} (hk:k≤20000) (o1 o2 o3 x1 x2 x3 y1 y2 y3 z1 z2 z3 p1 p2 p3:Rat) (hx:c7 x1 x2 x3 x1 x2 x3≠0) (hy:c7 y1 y2 y3 y1 y2 y3≠0) (hz:c7 z1 z2 z3 z1 z2 z3≠0) (qo:Q k o1∧Q k o2∧Q k o3) (qx:Q k x1∧Q k x2∧Q k x3) (qy:Q k y1∧Q k y2∧Q k y3) (qz:Q k z1∧Q k z2∧Q k z3) (qp:Q k p1∧Q k p2∧Q k p3):Ax.Pure Tryz.prog G 96 [tF (c5 o1) (c5 o2) (c5 o3) (c5 x1) (c5 x2) (c5 x3) (c5 y1) (c5 y2) (c5 y3) (c5 z1) (c5 z2) (c5 z3),tV (c5 p1) (c5 p2) (c5 p3)] (tV (c5 (c7 (p1 - o1) (p2 - o2) (p3 - o3) x1 x2 x3 / c7 x1 x2 x3 x1 x2 x3)) (c5 (c7 (p1 - o1) (p2 - o2) (p3 - o3) y1 y2 y3 / c7 y1 y2 y3 y1 y2 y3)) (c5 (c7 (p1 - o1) (p2 - o2) (p3 - o3) z1 z2 z3 / c7 z1 z2 z3 z1 z2 z3))):=by
  have c_s:=b5j (k:=k) (by omega) p1 p2 p3 o1 o2 o3 qp qo
  have c_t:=d2u (k:=k) (by omega) o1 o2 o3 x1 x2 x3 y1 y2 y3 z1 z2 z3 qx qy qz
  obtain ⟨qo1,qo2,qo3⟩:=qo
  obtain ⟨qx1,qx2,qx3⟩:=qx
  obtain ⟨qy1,qy2,qy3⟩:=qy
  obtain ⟨qz1,qz2,qz3⟩:=qz
  obtain ⟨qp1,qp2,qp3⟩:=qp
  have s1:=j9 qp1 qo1
  have s2:=j9 qp2 qo2
  have s3:=j9 qp3 qo3
  have u1:=a07 qx1 (show k≤k+k+1 by omega)
  have u2:=a07 qx2 (show k≤k+k+1 by omega)
  have u3:=a07 qx3 (show k≤k+k+1 by omega)
  have c_dx:=b5f (k:=k+k+1) (by omega) (p1 - o1) (p2 - o2) (p3 - o3) x1 x2 x3 ⟨s1,s2,s3⟩ ⟨u1,u2,u3⟩
  have c_vx:=d6m _ _ hx (a0e s1 s2 s3 u1 u2 u3) (a0e u1 u2 u3 u1 u2 u3) (by omega)
  clear u1 u2 u3
  have u1:=a07 qy1 (show k≤k+k+1 by omega)
  have u2:=a07 qy2 (show k≤k+k+1 by omega)
  have u3:=a07 qy3 (show k≤k+k+1 by omega)
  have c_dy:=b5f (k:=k+k+1) (by omega) (p1 - o1) (p2 - o2) (p3 - o3) y1 y2 y3 ⟨s1,s2,s3⟩ ⟨u1,u2,u3⟩
  have c_vy:=d6m _ _ hy (a0e s1 s2 s3 u1 u2 u3) (a0e u1 u2 u3 u1 u2 u3) (by omega)
  clear u1 u2 u3
  have u1:=a07 qz1 (show k≤k+k+1 by omega)
  have u2:=a07 qz2 (show k≤k+k+1 by omega)
  have u3:=a07 qz3 (show k≤k+k+1 by omega)
  have c_dz:=b5f (k:=k+k+1) (by omega) (p1 - o1) (p2 - o2) (p3 - o3) z1 z2 z3 ⟨s1,s2,s3⟩ ⟨u1,u2,u3⟩
  have c_vz:=d6m _ _ hz (a0e s1 s2 s3 u1 u2 u3) (a0e u1 u2 u3 u1 u2 u3) (by omega)
  clear u1 u2 u3
  refine r8 Tryz.func96 rfl Tryz.ntmps96 ?_
  intro w0 E0 hc
  repeat' (first|refine n7 hc Tryz.results96 ?_|(with_reducible first|exact trivial|refine j3 ?_ ?_|refine m8 (fun h=>?_)|refine c9 c_s ?_ ?_|refine c9 c_t ?_ ?_|refine c9 c_dx ?_ ?_|refine c9 c_dy ?_ ?_|refine c9 c_dz ?_ ?_|refine c9 c_vx ?_ ?_|refine c9 c_vy ?_ ?_|refine c9 c_vz ?_ ?_|fail)|(omega;done))
theorem b0d (a1 a2 a3:Rat):Ax.Pure Tryz.prog G 79 [tV (c5 a1) (c5 a2) (c5 a3)] (Bo (decide (a1=0∧a2=0∧a3=0))):=by
  have c_o:=b92
  have e:∀a:Rat,((bs (c5 a)).toList == (bs (c5 0)).toList)=decide (a=0):=fun a=>by
    rw [←b7o];exact Bool.eq_iff_iff.2 ((b0h a).trans (by simp))
  refine r8 Tryz.func79 rfl Tryz.ntmps79 ?_
  intro w0 E0 hc
  repeat' (first|refine n7 hc Tryz.results79 ?_|(with_reducible first|exact trivial|refine j3 ?_ ?_|refine m8 (fun h=>?_)|refine c9 c_o ?_ ?_|fail)|((refine j6 (congrArg Bo ?_);rw [e,e,e];by_cases h1:a1=0 <;> by_cases h2:a2=0 <;> by_cases h3:a3=0 <;> simp [h1,h2,h3]);done))
end Go.Proofs
end
section
namespace Go.Proofs
open Go.Ax
theorem d9e (a b:Rat):((bs (c5 a)).toList == (bs (c5 b)).toList)=decide (a=b):=by
  rw [a6y]
  exact decide_eq_decide.2 ⟨b96,fun h=>h ▸ rfl⟩
end Go.Proofs
end
section
set_option maxHeartbeats 4000000
set_option maxRecDepth 100000
namespace Go.Proofs
open Go.Ax
theorem e1h (x1 x2 x3 y1 y2 y3 z1 z2 z3:Rat):c7 x1 x2 x3 (y2*z3 - y3*z2) (y3*z1 - y1*z3) (y1*z2 - y2*z1)=a94 x1 x2 x3 y1 y2 y3 z1 z2 z3:=by
  unfold a94 c7;grind
theorem d9o {q:Rat}:sgQ q≤0↔¬0 < q:=by
  rw [show 0 < q↔0 < q.num by rw [Rat.lt_iff];simp]
  unfold sgQ
  split
  · rename_i h;subst h;decide
  · rename_i h
    have:q.num≠0:=fun e=>h (Rat.num_eq_zero.1 e)
    split <;> omega
theorem d2r {k:Nat} (hk:k≤50000) (o1 o2 o3 x1 x2 x3 y1 y2 y3 z1 z2 z3 p1 p2 p3 a1 a2 a3 b1 b2 b3 c1 c2 c3:Rat) (qo:Q k o1∧Q k o2∧Q k o3) (qx:Q k x1∧Q k x2∧Q k x3) (qy:Q k y1∧Q k y2∧Q k y3) (qz:Q k z1∧Q k z2∧Q k z3) (qp:Q k p1∧Q k p2∧Q k p3) (qa:Q k a1∧Q k a2∧Q k a3) (qb:Q k b1∧Q k b2∧Q k b3) (qc:Q k c1∧Q k c2∧Q k c3):Ax.Pure Tryz.prog G 69 [tF (c5 o1) (c5 o2) (c5 o3) (c5 x1) (c5 x2) (c5 x3) (c5 y1) (c5 y2) (c5 y3) (c5 z1) (c5 z2) (c5 z3),tF (c5 p1) (c5 p2) (c5 p3) (c5 a1) (c5 a2) (c5 a3) (c5 b1) (c5 b2) (c5 b3) (c5 c1) (c5 c2) (c5 c3)] (tF (c5 (o1+(p1*x1+p2*y1+p3*z1))) (c5 (o2+(p1*x2+p2*y2+p3*z2))) (c5 (o3+(p1*x3+p2*y3+p3*z3))) (c5 (a1*x1+a2*y1+a3*z1)) (c5 (a1*x2+a2*y2+a3*z2)) (c5 (a1*x3+a2*y3+a3*z3)) (c5 (b1*x1+b2*y1+b3*z1)) (c5 (b1*x2+b2*y2+b3*z2)) (c5 (b1*x3+b2*y3+b3*z3)) (c5 (c1*x1+c2*y1+c3*z1)) (c5 (c1*x2+c2*y2+c3*z2)) (c5 (c1*x3+c2*y3+c3*z3))):=by
  have c_p:=d9a (k:=k) (by omega) o1 o2 o3 x1 x2 x3 y1 y2 y3 z1 z2 z3 p1 p2 p3 qo qx qy qz qp
  have c_a:=b5e (k:=k) (by omega) o1 o2 o3 x1 x2 x3 y1 y2 y3 z1 z2 z3 a1 a2 a3 qx qy qz qa
  have c_b:=b5e (k:=k) (by omega) o1 o2 o3 x1 x2 x3 y1 y2 y3 z1 z2 z3 b1 b2 b3 qx qy qz qb
  have c_c:=b5e (k:=k) (by omega) o1 o2 o3 x1 x2 x3 y1 y2 y3 z1 z2 z3 c1 c2 c3 qx qy qz qc
  refine r8 Tryz.func69 rfl Tryz.ntmps69 ?_
  intro w0 E0 hc
  repeat' (first|refine n7 hc Tryz.results69 ?_|(with_reducible first|exact trivial|refine j3 ?_ ?_|refine m8 (fun h=>?_)|refine c9 c_p ?_ ?_|refine c9 c_a ?_ ?_|refine c9 c_b ?_ ?_|refine c9 c_c ?_ ?_|fail)|(omega;done))
theorem b5g {k:Nat} (hk:k≤1000000) (o1 o2 o3 x1 x2 x3 y1 y2 y3 z1 z2 z3:Rat) (qo:Q k o1∧Q k o2∧Q k o3) (qx:Q k x1∧Q k x2∧Q k x3) (qy:Q k y1∧Q k y2∧Q k y3) (qz:Q k z1∧Q k z2∧Q k z3):Ax.Pure Tryz.prog G 192 [tF (c5 o1) (c5 o2) (c5 o3) (c5 x1) (c5 x2) (c5 x3) (c5 y1) (c5 y2) (c5 y3) (c5 z1) (c5 z2) (c5 z3)] (N (if b3j o1 o2 o3 x1 x2 x3 y1 y2 y3 z1 z2 z3=true then 4 else 0)):=by
  have c_o:=b0e hk o1 o2 o3 qo.1 qo.2.1 qo.2.2
  have c_x:=b0e hk x1 x2 x3 qx.1 qx.2.1 qx.2.2
  have c_y:=b0e hk y1 y2 y3 qy.1 qy.2.1 qy.2.2
  have c_z:=b0e hk z1 z2 z3 qz.1 qz.2.1 qz.2.2
  have hb:b3j o1 o2 o3 x1 x2 x3 y1 y2 y3 z1 z2 z3=(a1i o1 o2 o3 || (a1i x1 x2 x3 || (a1i y1 y2 y3 || a1i z1 z2 z3))):=by unfold b3j;simp [Bool.or_assoc]
  rw [hb]
  clear hb
  generalize a1i o1 o2 o3=bo at *
  generalize a1i x1 x2 x3=bx at *
  generalize a1i y1 y2 y3=by' at *
  generalize a1i z1 z2 z3=bz at *
  obtain ⟨eo,ho,hO⟩:∃e:Int,(if bo=true then 4 else 0)=e∧((bo=true∧e=4)∨(bo=false∧e=0)):=⟨_,rfl,by cases bo <;> simp⟩
  obtain ⟨ex,hx,hX⟩:∃e:Int,(if bx=true then 4 else 0)=e∧((bx=true∧e=4)∨(bx=false∧e=0)):=⟨_,rfl,by cases bx <;> simp⟩
  obtain ⟨ey,hy,hY⟩:∃e:Int,(if by'=true then 4 else 0)=e∧((by'=true∧e=4)∨(by'=false∧e=0)):=⟨_,rfl,by cases by' <;> simp⟩
  obtain ⟨ez,hz,hZ⟩:∃e:Int,(if bz=true then 4 else 0)=e∧((bz=true∧e=4)∨(bz=false∧e=0)):=⟨_,rfl,by cases bz <;> simp⟩
  rw [ho] at c_o
  rw [hx] at c_x
  rw [hy] at c_y
  rw [hz] at c_z
  clear ho hx hy hz
  have w1:IntKind.i64.wrap (eo+ex)=eo+ex:=w64 (by omega) (by omega)
  have w2:IntKind.i64.wrap (eo+ex+ey)=eo+ex+ey:=w64 (by omega) (by omega)
  have w3:IntKind.i64.wrap (eo+ex+ey+ez)=eo+ex+ey+ez:=w64 (by omega) (by omega)
  have w4:IntKind.i64.wrap (IntKind.i64.wrap (IntKind.i64.wrap (eo+ex)+ey)+ez)=eo+ex+ey+ez:=by rw [w1,w2,w3]
  refine r8 Tryz.func192 rfl Tryz.ntmps192 ?_
  intro w0 E0 hc
  repeat' (first|refine n7 hc Tryz.results192 ?_|(with_reducible first|exact trivial|refine j3 ?_ ?_|refine m8 (fun h=>?_)|refine c9 c_o ?_ ?_|refine c9 c_x ?_ ?_|refine c9 c_y ?_ ?_|refine c9 c_z ?_ ?_|fail)|(omega;done))
  · rw [w4] at h
    rcases hO with ⟨rfl,e1⟩|⟨rfl,e1⟩<;> rcases hX with ⟨rfl,e2⟩|⟨rfl,e2⟩<;> rcases hY with ⟨rfl,e3⟩|⟨rfl,e3⟩<;> rcases hZ with ⟨rfl,e4⟩|⟨rfl,e4⟩<;> first|exact Sub.refl _|omega
  · rw [w4] at h
    rcases hO with ⟨rfl,e1⟩|⟨rfl,e1⟩<;> rcases hX with ⟨rfl,e2⟩|⟨rfl,e2⟩<;> rcases hY with ⟨rfl,e3⟩|⟨rfl,e3⟩<;> rcases hZ with ⟨rfl,e4⟩|⟨rfl,e4⟩<;> first|exact Sub.refl _|omega
theorem d06 {k:Nat} (hk:k≤40000) (o1 o2 o3 x1 x2 x3 y1 y2 y3 z1 z2 z3:Rat) (qx:Q k x1∧Q k x2∧Q k x3) (qy:Q k y1∧Q k y2∧Q k y3) (qz:Q k z1∧Q k z2∧Q k z3):Ax.Pure Tryz.prog G 68 [tF (c5 o1) (c5 o2) (c5 o3) (c5 x1) (c5 x2) (c5 x3) (c5 y1) (c5 y2) (c5 y3) (c5 z1) (c5 z2) (c5 z3)] (N (if (c7 x1 x2 x3 y1 y2 y3=0∧c7 y1 y2 y3 z1 z2 z3=0∧c7 z1 z2 z3 x1 x2 x3=0)∧0 < a94 x1 x2 x3 y1 y2 y3 z1 z2 z3 then 0 else 15)):=by
  have c_1:=b5f (k:=k) (by omega) x1 x2 x3 y1 y2 y3 qx qy
  have c_2:=b5f (k:=k) (by omega) y1 y2 y3 z1 z2 z3 qy qz
  have c_3:=b5f (k:=k) (by omega) z1 z2 z3 x1 x2 x3 qz qx
  have c_d:=r_Det (k:=k) (by omega) x1 x2 x3 y1 y2 y3 z1 z2 z3 qx qy qz
  rw [e1h] at c_d
  generalize c7 x1 x2 x3 y1 y2 y3=d1 at *
  generalize c7 y1 y2 y3 z1 z2 z3=d2 at *
  generalize c7 z1 z2 z3 x1 x2 x3=d3 at *
  generalize a94 x1 x2 x3 y1 y2 y3 z1 z2 z3=dt at *
  have c_4:=b91 d1
  have c_5:=b91 d2
  have c_6:=b91 d3
  have c_7:=c4i dt
  have hs:sgQ dt≤0↔¬0 < dt:=d9o
  generalize sgQ dt=s at *
  refine r8 Tryz.func68 rfl Tryz.ntmps68 ?_
  intro w0 E0 hc
  repeat' (first|refine n7 hc Tryz.results68 ?_|(with_reducible first|exact trivial|refine j3 ?_ ?_|refine m8 (fun h=>?_)|refine c9 c_1 ?_ ?_|refine c9 c_2 ?_ ?_|refine c9 c_3 ?_ ?_|refine c9 c_4 ?_ ?_|refine c9 c_5 ?_ ?_|refine c9 c_6 ?_ ?_|refine c9 c_d ?_ ?_|refine c9 c_7 ?_ ?_|fail)|(omega;done))
  all_goals
    refine a7y ?_
    by_cases e1:d1=0 <;> by_cases e2:d2=0 <;> by_cases e3:d3=0 <;> by_cases e4:0 < dt <;> simp_all <;> omega
end Go.Proofs
end
section
namespace Go.Proofs
open Go.Ax
theorem d7t {q:Rat} (h:Q (3*600) q):y4 q=false:=by
  have h1:∀n:Nat,n < 2 ^ (3*600)→(Lib.decDigits n).length≤600:=fun n hn=>a0p (Nat.lt_of_lt_of_le hn (c1y 600)) (by decide)
  unfold y4 b6h
  rw [Bool.or_eq_false_iff,decide_eq_false_iff_not,decide_eq_false_iff_not]
  exact ⟨Nat.not_lt.2 (h1 _ h.1),Nat.not_lt.2 (h1 _ h.2)⟩
theorem e1m {a b c:Rat} (h:okV a b c):a19 (v3 a b c)=0:=by
  show u5 [a0a (c5 a),a0a (c5 b),a0a (c5 c)]=0
  rw [a2j h.1,a2j h.2.1,a2j h.2.2];rfl
theorem c99 {a b c:Rat} (h:okV a b c):Ax.Pure Tryz.prog G 39 [tV (c5 a) (c5 b) (c5 c)] (N 0):=by
  have k:=a69 (c5 a) (c5 b) (c5 c) (a0g h.1) (a0g h.2.1) (a0g h.2.2)
  rw [show a1e [c5 a,c5 b,c5 c]=0 from e1m h] at k
  exact k
end Go.Proofs
end
section
set_option maxHeartbeats 4000000
set_option maxRecDepth 100000
namespace Go.Proofs
open Go.Ax
theorem d98 {a b c d:V3}:Sub (.one (.row 3 4 (fun i=> [a3r a,a3r b,a3r c,a3r d].getD i []))) (c66 [a,b,c,d] 4):=a1t (b5k rfl rfl rfl rfl)
theorem c8g {P:Nat→V3→Prop} {a b c d:V3} (h0:P 0 a) (h1:P 1 b) (h2:P 2 c) (h3:P 3 d) (i:Nat) (hi:i < 4):P i ([a,b,c,d].getD i ([],[],[])):=by
  rcases (by omega:i=0∨i=1∨i=2∨i=3) with rfl|rfl|rfl|rfl
  · exact h0
  · exact h1
  · exact h2
  · exact h3
theorem c09 {a b c d:V3} (ha:u7 a) (hb:u7 b) (hc':u7 c) (hd:u7 d) (h0:a3e [a,b,c,d]≠0):Ax.Pure Tryz.prog G 31 [txF a b c d] (N (a3e [a,b,c,d])):=by
  have c_v:∀i:Nat,i < 4→Ax.Pure Tryz.prog G 39 [txV ([a,b,c,d].getD i ([],[],[]))] (N (a19 ([a,b,c,d].getD i ([],[],[])))):=
    c8g (P:=fun _ v=>Ax.Pure Tryz.prog G 39 [txV v] (N (a19 v))) (a69 _ _ _ ha.1 ha.2.1 ha.2.2) (a69 _ _ _ hb.1 hb.2.1 hb.2.2) (a69 _ _ _ hc'.1 hc'.2.1 hc'.2.2) (a69 _ _ _ hd.1 hd.2.1 hd.2.2)
  refine r8 Tryz.func31 rfl Tryz.ntmps31 ?_
  intro w0 E0 hc
  repeat' (first|refine n7 hc Tryz.results31 ?_|(with_reducible first|exact trivial|refine j3 ?_ ?_|refine m8 (fun h=>?_)|fail)|(omega;done))
  refine m9 (α:=Nat) (fun i=>n5 [(1,.one (.ptr 0 12 0 0)),(3,c66 [a,b,c,d] 4),(4,N i)] [(0,⟨12,1,fun _=> [.v (.string (bs a.1)),.v (.string (bs a.2.1)),.v (.string (bs a.2.2)),.v (.string (bs b.1)),.v (.string (bs b.2.1)),.v (.string (bs b.2.2)),.v (.string (bs c.1)),.v (.string (bs c.2.1)),.v (.string (bs c.2.2)),.v (.string (bs d.1)),.v (.string (bs d.2.1)),.v (.string (bs d.2.2))],false⟩)] 1) (fun i=>i≤4∧a3e [a,b,c,d]=a3e ([a,b,c,d].drop i)) (fun i=>4 - i) 0 ⟨Nat.zero_le _,rfl⟩ ?_ ?_
  · refine zW1 ?_ <;> repeat' (with_reducible first|exact trivial|refine j3 ?_ ?_|refine t7 (fun i hi=>?_))
    all_goals exact d98
  · rintro i ⟨h1,h2⟩
    have hd:=fun h:i < 4=>b9r (ls:=[a,b,c,d]) (i:=i) h
    have c_vi:=c_v i
    repeat' (first|refine n7 hc Tryz.results31 ?_|(with_reducible first|exact trivial|refine j3 ?_ ?_|refine m8 (fun h=>?_)|refine c9 (c_vi ?_) ?_ ?_|fail)|((first|omega|(simp only [Int.toNat_natCast];omega));done))
    · exact j6 (by rw [h2,hd (by omega),if_neg h])
    · refine ⟨i+1,⟨by omega,by rw [h2,hd (by omega),if_pos h]⟩,by omega,?_⟩
      refine zW1 ?_ <;> repeat' (with_reducible first|exact trivial|refine j3 ?_ ?_|refine t7 (fun i hi=>?_))
    · obtain rfl:i=4:=by omega
      exact absurd h2 h0
theorem c4d {a b c d:V3} {zz:Nat→Bool} {s:Int} (c_v:∀i,i < 4→Ax.Pure Tryz.prog G 39 [txV ([a,b,c,d].getD i ([],[],[]))] (N 0))
    (c_o:∀i,i < 4→Ax.Pure Tryz.prog G 79 [txV ([a,b,c,d].getD i ([],[],[]))] (Bo (zz i))) (c_s:Ax.Pure Tryz.prog G 68 [txF a b c d] (N s)) :
    Ax.Pure Tryz.prog G 31 [txF a b c d] (N (if zz 1=true∨zz 2=true∨zz 3=true then 6 else s)):=by
  refine r8 Tryz.func31 rfl Tryz.ntmps31 ?_
  intro w0 E0 hc
  repeat' (first|refine n7 hc Tryz.results31 ?_|(with_reducible first|exact trivial|refine j3 ?_ ?_|refine m8 (fun h=>?_)|fail)|(omega;done))
  refine m9 (α:=Nat) (fun i=>n5 [(1,.one (.ptr 0 12 0 0)),(3,c66 [a,b,c,d] 4),(4,N i)] [(0,⟨12,1,fun _=> [.v (.string (bs a.1)),.v (.string (bs a.2.1)),.v (.string (bs a.2.2)),.v (.string (bs b.1)),.v (.string (bs b.2.1)),.v (.string (bs b.2.2)),.v (.string (bs c.1)),.v (.string (bs c.2.1)),.v (.string (bs c.2.2)),.v (.string (bs d.1)),.v (.string (bs d.2.1)),.v (.string (bs d.2.2))],false⟩)] 1) (fun i=>i≤4∧True) (fun i=>4 - i) 0 ⟨Nat.zero_le _,trivial⟩ ?_ ?_
  · refine zW1 ?_ <;> repeat' (with_reducible first|exact trivial|refine j3 ?_ ?_|refine t7 (fun i hi=>?_))
    all_goals exact d98
  rintro i ⟨h1,-⟩
  have c_vi:=c_v i
  repeat' (first|refine n7 hc Tryz.results31 ?_|(with_reducible first|exact trivial|refine j3 ?_ ?_|refine m8 (fun h=>?_)|refine c9 (c_vi ?_) ?_ ?_|fail)|((first|omega|(simp only [Int.toNat_natCast];omega));done))
  · refine ⟨i+1,⟨by omega,trivial⟩,by omega,?_⟩
    refine zW1 ?_ <;> repeat' (with_reducible first|exact trivial|refine j3 ?_ ?_|refine t7 (fun i hi=>?_))
  refine m9 (α:=Nat) (fun i=>n5 [(1,.one (.ptr 0 12 0 0)),(3,c66 [a,b,c,d] 4),(6,N i)] [(0,⟨12,1,fun _=> [.v (.string (bs a.1)),.v (.string (bs a.2.1)),.v (.string (bs a.2.2)),.v (.string (bs b.1)),.v (.string (bs b.2.1)),.v (.string (bs b.2.2)),.v (.string (bs c.1)),.v (.string (bs c.2.1)),.v (.string (bs c.2.2)),.v (.string (bs d.1)),.v (.string (bs d.2.1)),.v (.string (bs d.2.2))],false⟩)] 1) (fun i=>1≤i∧i≤4∧∀j,1≤j→j < i→zz j=false) (fun i=>4 - i) 1 ⟨Nat.le_refl _,by decide,fun j h1 h2=>by omega⟩ ?_ ?_
  · refine zW1 ?_ <;> repeat' (with_reducible first|exact trivial|refine j3 ?_ ?_|refine t7 (fun i hi=>?_))
  rintro i ⟨h1,h2,h3⟩
  have c_oi:=c_o i
  repeat' (first|refine n7 hc Tryz.results31 ?_|(with_reducible first|exact trivial|refine j3 ?_ ?_|refine m8 (fun h=>?_)|refine c9 (c_oi ?_) ?_ ?_|refine c9 c_s ?_ ?_|fail)|((first|omega|(simp only [Int.toNat_natCast];omega));done))
  · refine a7y ?_
    rw [if_pos]
    rcases (by omega:i=1∨i=2∨i=3) with rfl|rfl|rfl
    · exact .inl h
    · exact .inr (.inl h)
    · exact .inr (.inr h)
  · refine ⟨i+1,⟨by omega,by omega,fun j j1 j2=>?_⟩,by omega,?_⟩
    · by_cases e:j=i
      · rw [e];exact h
      · exact h3 j j1 (by omega)
    · refine zW1 ?_ <;> repeat' (with_reducible first|exact trivial|refine j3 ?_ ?_|refine t7 (fun i hi=>?_))
  · obtain rfl:i=4:=by omega
    rw [if_neg (by rw [h3 1 (by omega) (by omega),h3 2 (by omega) (by omega),h3 3 (by omega) (by omega)];simp)]
    exact Sub.refl _
theorem c4e (o1 o2 o3 x1 x2 x3 y1 y2 y3 z1 z2 z3:Rat) (ho:okV o1 o2 o3) (hx:okV x1 x2 x3) (hy:okV y1 y2 y3) (hz:okV z1 z2 z3):Ax.Pure Tryz.prog G 31 [txF (v3 o1 o2 o3) (v3 x1 x2 x3) (v3 y1 y2 y3) (v3 z1 z2 z3)] (N (axE x1 x2 x3 y1 y2 y3 z1 z2 z3)):=by
  have h:=c4d (a:=v3 o1 o2 o3) (b:=v3 x1 x2 x3) (c:=v3 y1 y2 y3) (d:=v3 z1 z2 z3) (zz:=fun i=> [decide (o1=0∧o2=0∧o3=0),decide (x1=0∧x2=0∧x3=0),decide (y1=0∧y2=0∧y3=0),decide (z1=0∧z2=0∧z3=0)].getD i false)
    (c8g (P:=fun _ v=>Ax.Pure Tryz.prog G 39 [txV v] (N 0)) (c99 ho) (c99 hx) (c99 hy) (c99 hz))
    (c8g (P:=fun i v=>Ax.Pure Tryz.prog G 79 [txV v] (Bo ([decide (o1=0∧o2=0∧o3=0),decide (x1=0∧x2=0∧x3=0),decide (y1=0∧y2=0∧y3=0),decide (z1=0∧z2=0∧z3=0)].getD i false))) (b0d o1 o2 o3) (b0d x1 x2 x3) (b0d y1 y2 y3) (b0d z1 z2 z3))
    (d06 (k:=2400) (by decide) o1 o2 o3 x1 x2 x3 y1 y2 y3 z1 z2 z3 (s9 hx) (s9 hy) (s9 hz))
  have e:(∃i,zv x1 x2 x3 y1 y2 y3 z1 z2 z3 i=true)↔decide (x1=0∧x2=0∧x3=0)=true∨decide (y1=0∧y2=0∧y3=0)=true∨decide (z1=0∧z2=0∧z3=0)=true:=by
    constructor
    · rintro ⟨⟨i,hi⟩,h⟩
      rcases (by omega:i=0∨i=1∨i=2) with rfl|rfl|rfl
      · exact .inl h
      · exact .inr (.inl h)
      · exact .inr (.inr h)
    · rintro (h|h|h)
      · exact ⟨0,h⟩
      · exact ⟨1,h⟩
      · exact ⟨2,h⟩
  have h:Ax.Pure Tryz.prog G 31 _ (N (if decide (x1=0∧x2=0∧x3=0)=true∨decide (y1=0∧y2=0∧y3=0)=true∨decide (z1=0∧z2=0∧z3=0)=true then _ else _)):=h
  unfold axE
  by_cases k:∃i,zv x1 x2 x3 y1 y2 y3 z1 z2 z3 i=true
  · rw [if_pos (e.1 k)] at h;rw [if_pos k];exact h
  · rw [if_neg (fun x=>k (e.2 x))] at h;rw [if_neg k];exact h
theorem a6o {a b c d:V3} {e:Int} (ha:u7 a) (hb:u7 b) (hc:u7 c) (hd:u7 d) (h:FrE a b c d e):Ax.Pure Tryz.prog G 31 [txF a b c d] (N e):=by
  rcases h with ⟨rfl,h⟩|⟨o1,o2,o3,x1,x2,x3,y1,y2,y3,z1,z2,z3,⟨rfl,rfl,rfl,rfl⟩,⟨ho,hx,hy,hz⟩,rfl⟩
  · exact c09 ha hb hc hd h
  · exact c4e o1 o2 o3 x1 x2 x3 y1 y2 y3 z1 z2 z3 ho hx hy hz
end Go.Proofs
end
section
namespace Go.Proofs
open Go.Ax
theorem c7j:(⟨#[50]⟩:ByteArray)=bs (c5 2):=by
  have:c5 2= [50]:=by
    unfold c5 r6
    rw [if_pos (by rfl),if_neg (by decide)]
    show Lib.decDigits 2= [50]
    rw [a0x (by decide)];rfl
  rw [this]
end Go.Proofs
end
