/- Lemmas on the program and its library: part ZW22. -/
import Derived.Test.YtoiejgkkcfkliaaGreatDoorZTxt2
import Derived.Test.YtoiejgkkcfkliaaGreatDoorZW15
set_option linter.unusedVariables false
set_option linter.unusedSimpArgs false
section
set_option maxHeartbeats 4000000
set_option maxRecDepth 100000
namespace Go.Proofs
open Go.Ax
def lc (m n:Nat):Nat:=m / Nat.gcd m n*n
theorem c8o {m n:Nat} (hm:0 < m) (hn:0 < n):0 < lc m n:=
  Nat.mul_pos (Nat.div_pos (Nat.le_of_dvd hm (Nat.gcd_dvd_left m n)) (Nat.gcd_pos_of_pos_left _ hm)) hn
theorem d6a {m n a b:Nat} (hm:m < 2 ^ a) (hn:n < 2 ^ b):lc m n < 2 ^ (a+b):=by
  rw [Nat.pow_add]
  exact Nat.mul_lt_mul'' (Nat.lt_of_le_of_lt (Nat.div_le_self _ _) hm) hn
theorem zlN {m k K:Nat} (h:m < 2 ^ k) (hk:k≤K):zl (m:Int)≤K:=Nat.le_trans (b4e (by simpa using h)) hk
theorem c3j (m n a b:Nat) (hm:m < 2 ^ a) (hn:n < 2 ^ b) (ha:a≤1000000000) (hb:b≤1000000000):Ax.Pure Tryz.prog G 118 [n8 (m:Nat),n8 (n:Nat)] (n8 (Nat.gcd m n:Nat)):=by
  have:=d5b m n (Nat.le_trans (zlN hm ha) (by decide)) (Nat.le_trans (zlN hn hb) (by decide))
  rwa [show Int.gcd (m:Int) n=Nat.gcd m n from rfl] at this
theorem e1d (m g a b:Nat) (hm:m < 2 ^ a) (hg:g < 2 ^ b) (ha:a≤1000000000) (hb:b≤1000000000) (h0:0 < g):Ax.Pure Tryz.prog G 222 [n8 (m:Nat),n8 (g:Nat)] (n8 (m / g:Nat)):=by
  have:=c50 m g (by omega) (Nat.le_trans (zlN hm ha) (by decide)) (Nat.le_trans (zlN hg hb) (by decide))
  rwa [if_neg (by omega),←Int.natCast_ediv] at this
theorem e1c (m n a b:Nat) (hm:m < 2 ^ a) (hn:n < 2 ^ b) (ha:a≤1000000000) (hb:b≤1000000000):Ax.Pure Tryz.prog G 215 [n8 (m:Nat),n8 (n:Nat)] (n8 (m*n:Nat)):=by
  have:=c1u m n (Nat.le_trans (zlN hm ha) (by decide)) (Nat.le_trans (zlN hn hb) (by decide))
  rwa [←Int.natCast_mul] at this
def dnm (a b c:Rat):Nat→Nat
  | 0=>1
  | 1=>lc 1 a.den
  | 2=>lc (lc 1 a.den) b.den
  | _=>lc (lc (lc 1 a.den) b.den) c.den
def nmr (x:Rat) (l:Nat):Nat:=(x*(l:Rat)).num.natAbs
def cmn (a b c:Rat) (l:Nat):Nat→Nat
  | 0=>0
  | 1=>Nat.gcd 0 (nmr a l)
  | 2=>Nat.gcd (Nat.gcd 0 (nmr a l)) (nmr b l)
  | _=>Nat.gcd (Nat.gcd (Nat.gcd 0 (nmr a l)) (nmr b l)) (nmr c l)
def nrm (a b c:Rat):Rat:=((dnm a b c 3:Nat):Rat) / ((cmn a b c (dnm a b c 3) 3:Nat):Rat)
theorem c79 {k:Nat} {a b c:Rat} (ha:Q k a) (hb:Q k b) (hc:Q k c):∀i,dnm a b c i < 2 ^ (3*k+1):=by
  have h1:=d6a (m:=1) (a:=1) (by decide) ha.2
  have h2:=d6a h1 hb.2
  have h3:=d6a h2 hc.2
  have e:∀{x j:Nat},x < 2 ^ j→j≤3*k+1→x < 2 ^ (3*k+1):=fun h hj=>Nat.lt_of_lt_of_le h (Nat.pow_le_pow_right (by decide) hj)
  intro i
  match i with
  | 0=>exact e (x:=1) (j:=1) (by decide) (by omega)
  | 1=>exact e h1 (by omega)
  | 2=>exact e h2 (by omega)
  | (n+3)=>exact e h3 (by omega)
theorem d8i (a b c:Rat):∀i,0 < dnm a b c i:=by
  have h1:=c8o (m:=1) (by decide) a.den_pos
  have h2:=c8o h1 b.den_pos
  have h3:=c8o h2 c.den_pos
  intro i
  match i with
  | 0=>exact Nat.one_pos
  | 1=>exact h1
  | 2=>exact h2
  | (n+3)=>exact h3
theorem c5e {m k:Nat} (h:m < 2 ^ (k+1)):Q (k+1) (m:Rat):=⟨by simpa using h,by simp⟩
theorem b6t {m n k:Nat} (hm:m < 2 ^ k) (hn:n < 2 ^ k):Nat.gcd m n < 2 ^ k:=by
  rcases Nat.eq_zero_or_pos m with h|h
  · subst h;rwa [Nat.gcd_zero_left]
  · exact Nat.lt_of_le_of_lt (Nat.gcd_le_left _ h) hm
theorem c3v {k j l:Nat} {x:Rat} (hx:Q k x) (hl:l < 2 ^ (j+1)):nmr x l < 2 ^ (k+(j+1)):=(c6 hx (c5e hl)).1
theorem d5p {k j l:Nat} {a b c:Rat} (ha:Q k a) (hb:Q k b) (hc:Q k c) (hl:l < 2 ^ (j+1)):∀i,cmn a b c l i < 2 ^ (k+(j+1)):=by
  have z:0 < 2 ^ (k+(j+1)):=Nat.two_pow_pos _
  have h1:=b6t z (c3v ha hl)
  have h2:=b6t h1 (c3v hb hl)
  have h3:=b6t h2 (c3v hc hl)
  intro i
  match i with
  | 0=>exact z
  | 1=>exact h1
  | 2=>exact h2
  | (n+3)=>exact h3
theorem d8d {a b c:Rat} {l:Nat} (hl:0 < l) (h:¬(a=0∧b=0∧c=0)):0 < cmn a b c l 3:=by
  refine Nat.pos_of_ne_zero fun e=>h ?_
  have e:Nat.gcd (Nat.gcd (Nat.gcd 0 (nmr a l)) (nmr b l)) (nmr c l)=0:=e
  rw [Nat.gcd_eq_zero_iff,Nat.gcd_eq_zero_iff,Nat.gcd_zero_left] at e
  have k:∀x:Rat,nmr x l=0→x=0:=fun x hx=>by
    unfold nmr at hx
    have:=Rat.num_eq_zero.1 (Int.natAbs_eq_zero.1 hx)
    rcases Rat.mul_eq_zero.1 this with h|h
    · exact h
    · exfalso
      have:((l:Nat):Rat)=((0:Nat):Rat):=by simpa using h
      rw [Rat.natCast_inj] at this;omega
  exact ⟨k a e.1.1,k b e.1.2,k c e.2⟩
theorem c5z {k:Nat} (hk:k≤1000000) (a b c d:Rat) (h0:¬(a=0∧b=0∧c=0)) (ha:Q k a) (hb:Q k b) (hc':Q k c) (hd:Q k d):Ax.Pure Tryz.prog G 261 [hA a b c d] (hA (a*nrm a b c) (b*nrm a b c) (c*nrm a b c) (d*nrm a b c)):=by
  have hdl:=c79 ha hb hc'
  have hdp:=d8i a b c
  obtain ⟨D,hD⟩:∃D,D=dnm a b c 3:=⟨_,rfl⟩
  have hDl:D < 2 ^ (3*k+1):=hD ▸ hdl 3
  have hDp:0 < D:=hD ▸ hdp 3
  have hcl:=d5p ha hb hc' hDl
  have hcp:0 < cmn a b c D 3:=d8d hDp h0
  have qD:=c5e hDl
  have c_g:∀(x:Rat) (i:Nat),Q k x→Ax.Pure Tryz.prog G 118 [n8 (dnm a b c i:Nat),n8 (x.den:Nat)] (n8 (Nat.gcd (dnm a b c i) x.den:Nat)):=fun x i hx=>
    c3j _ _ (3*k+1) k (hdl i) hx.2 (by omega) (by omega)
  have c_q:∀(x:Rat) (i:Nat),Ax.Pure Tryz.prog G 222 [n8 (dnm a b c i:Nat),n8 (Nat.gcd (dnm a b c i) x.den:Nat)] (n8 (dnm a b c i / Nat.gcd (dnm a b c i) x.den:Nat)):=fun x i=>
    e1d _ _ (3*k+1) (3*k+1) (hdl i) (Nat.lt_of_le_of_lt (Nat.gcd_le_left _ (hdp i)) (hdl i)) (by omega) (by omega) (Nat.gcd_pos_of_pos_left _ (hdp i))
  have c_m:∀(x:Rat) (i:Nat),Q k x→Ax.Pure Tryz.prog G 215 [n8 (dnm a b c i / Nat.gcd (dnm a b c i) x.den:Nat),n8 (x.den:Nat)] (n8 (lc (dnm a b c i) x.den:Nat)):=fun x i hx=>
    e1c _ _ (3*k+1) k (Nat.lt_of_le_of_lt (Nat.div_le_self _ _) (hdl i)) hx.2 (by omega) (by omega)
  have c_g2:∀(x:Rat) (i:Nat),Q k x→Ax.Pure Tryz.prog G 118 [n8 (cmn a b c D i:Nat),n8 (nmr x D:Nat)] (n8 (Nat.gcd (cmn a b c D i) (nmr x D):Nat)):=fun x i hx=>
    c3j _ _ (k+(3*k+1)) (k+(3*k+1)) (hcl i) (c3v hx hDl) (by omega) (by omega)
  have c_a:∀(x:Rat),Q k x→Ax.Pure Tryz.prog G 152 [n8 (x*((D:Nat):Rat)).num] (n8 (nmr x D:Nat)):=fun x hx=>
    d4m _ (by have:=(Q_zl (c6 hx qD)).1;omega)
  have c_ml:∀(x:Rat),Q k x→Ax.Pure Tryz.prog G 185 [a0h x,a0h ((D:Nat):Rat)] (a0h (x*((D:Nat):Rat))):=fun x hx=>
    a6z x _ (by have:=b8c hx;omega) (by have:=b8c qD;omega)
  have c_w:∀n:Nat,Ax.Pure Tryz.prog G 203 [n8 (n:Nat)] (a0h ((n:Nat):Rat)):=fun n=>b4s n
  have qC:=c5e (k:=k+3*k) (hcl 3)
  have c_dv:Ax.Pure Tryz.prog G 170 [a0h ((D:Nat):Rat),a0h ((cmn a b c D 3:Nat):Rat)] (a0h (nrm a b c)):=by
    have:=b3m ((D:Nat):Rat) ((cmn a b c D 3:Nat):Rat) (fun e=>by
      have e:((cmn a b c D 3:Nat):Rat)=((0:Nat):Rat):=by simpa using e
      rw [Rat.natCast_inj] at e;omega) (by have:=b8c qD;omega) (by have:=b8c qC;omega)
    rw [nrm,←hD];exact this
  have qN:Q ((3*k+1)+(k+3*k+1)) (nrm a b c):=by rw [nrm,←hD];exact a0b qD qC
  have rn:=b8c qN
  have r1:=b8c ha
  have r2:=b8c hb
  have r3:=b8c hc'
  have r4:=b8c hd
  subst hD
  have S:∀i:Nat,i < 3→0 < 4∧(0≤(i:Int)∧(i:Int) < ((3:Nat):Int))∧(true=false→4=1):=fun i hi=>⟨by omega,by omega,fun e=>(by cases e)⟩
  refine r8 Tryz.func261 rfl Tryz.ntmps261 ?_
  intro w0 E0 hc
  repeat' (first|refine n7 hc Tryz.results261 ?_|(with_reducible first|exact trivial|refine j3 ?_ ?_|refine m8 (fun h=>?_)|refine c9 (b4p _ ?_ ?_) ?_ ?_|fail)|(omega;done))
  refine m9 (α:=Nat) (fun i=>n5 [(1,.one (.ptr 0 16 0 0)),(2,.one (.ptr 1 16 0 0)),(3,.one (.ptr 2 2 0 0)),(12,vA a b c),(13,N i)] [(0,⟨16,1,fun _=> [.frac a,.frac b,.frac c,.frac d],false⟩),(1,⟨16,1,fun _=> [.v (.int .i64 0),.v (.slice none 0 0),.v (.int .i64 0),.v (.slice none 0 0),.v (.int .i64 0),.v (.slice none 0 0),.v (.int .i64 0),.v (.slice none 0 0),.v (.int .i64 0),.v (.slice none 0 0),.v (.int .i64 0),.v (.slice none 0 0),.v (.int .i64 0),.v (.slice none 0 0),.v (.int .i64 0),.v (.slice none 0 0)],false⟩),(2,⟨2,1,fun _=> [.int (dnm a b c i:Nat)],false⟩)] 3) (fun i=>i≤3) (fun i=>3 - i) 0 (Nat.zero_le _) ?_ ?_
  · refine zW1 ?_ <;> repeat' (with_reducible first|exact trivial|refine j3 ?_ ?_|refine t7 (fun i hi=>?_))
    all_goals exact u4.refl _
  · intro i hi
    have:i=0∨i=1∨i=2∨i=3:=by omega
    rcases this with rfl|rfl|rfl|rfl
    · repeat' (first|refine n7 hc Tryz.results261 ?_|(with_reducible first|exact trivial|refine j3 ?_ ?_|refine m8 (fun h=>?_)|refine c9 (c_g _ _ ?_) ?_ ?_|refine c9 (c_q _ _) ?_ ?_|refine c9 (c_m _ _ ?_) ?_ ?_|fail)|((first|omega|assumption|(refine S _ ?_;omega));done))
      refine ⟨1,by omega,by omega,?_⟩
      refine zW1 ?_ <;> repeat' (with_reducible first|exact trivial|refine j3 ?_ ?_|refine t7 (fun i hi=>?_))
      all_goals exact u4.refl _
    · repeat' (first|refine n7 hc Tryz.results261 ?_|(with_reducible first|exact trivial|refine j3 ?_ ?_|refine m8 (fun h=>?_)|refine c9 (c_g _ _ ?_) ?_ ?_|refine c9 (c_q _ _) ?_ ?_|refine c9 (c_m _ _ ?_) ?_ ?_|fail)|((first|omega|assumption|(refine S _ ?_;omega));done))
      refine ⟨2,by omega,by omega,?_⟩
      refine zW1 ?_ <;> repeat' (with_reducible first|exact trivial|refine j3 ?_ ?_|refine t7 (fun i hi=>?_))
      all_goals exact u4.refl _
    · repeat' (first|refine n7 hc Tryz.results261 ?_|(with_reducible first|exact trivial|refine j3 ?_ ?_|refine m8 (fun h=>?_)|refine c9 (c_g _ _ ?_) ?_ ?_|refine c9 (c_q _ _) ?_ ?_|refine c9 (c_m _ _ ?_) ?_ ?_|fail)|((first|omega|assumption|(refine S _ ?_;omega));done))
      refine ⟨3,by omega,by omega,?_⟩
      refine zW1 ?_ <;> repeat' (with_reducible first|exact trivial|refine j3 ?_ ?_|refine t7 (fun i hi=>?_))
      all_goals exact u4.refl _
    · repeat' (first|refine n7 hc Tryz.results261 ?_|(with_reducible first|exact trivial|refine j3 ?_ ?_|refine m8 (fun h=>?_)|refine c9 (c_w _) ?_ ?_|refine c9 (b4p _ ?_ ?_) ?_ ?_|fail)|(omega;done))
      refine m9 (α:=Nat) (fun i=>n5 [(1,.one (.ptr 0 16 0 0)),(2,.one (.ptr 1 16 0 0)),(6,.one (.ptr 3 4 0 0)),(7,.one (.ptr 4 2 0 0)),(30,vA a b c),(31,N i)] [(0,⟨16,1,fun _=> [.frac a,.frac b,.frac c,.frac d],false⟩),(1,⟨16,1,fun _=> [.v (.int .i64 0),.v (.slice none 0 0),.v (.int .i64 0),.v (.slice none 0 0),.v (.int .i64 0),.v (.slice none 0 0),.v (.int .i64 0),.v (.slice none 0 0),.v (.int .i64 0),.v (.slice none 0 0),.v (.int .i64 0),.v (.slice none 0 0),.v (.int .i64 0),.v (.slice none 0 0),.v (.int .i64 0),.v (.slice none 0 0)],false⟩),(3,⟨4,1,fun _=> [.frac ((dnm a b c 3:Nat):Rat)],false⟩),(4,⟨2,1,fun _=> [.int (cmn a b c (dnm a b c 3) i:Nat)],false⟩)] 5) (fun i=>i≤3) (fun i=>3 - i) 0 (Nat.zero_le _) ?_ ?_
      · refine zW1 ?_ <;> repeat' (with_reducible first|exact trivial|refine j3 ?_ ?_|refine t7 (fun i hi=>?_))
        all_goals exact u4.refl _
      · intro i hi
        have:i=0∨i=1∨i=2∨i=3:=by omega
        rcases this with rfl|rfl|rfl|rfl
        · repeat' (first|refine n7 hc Tryz.results261 ?_|(with_reducible first|exact trivial|refine j3 ?_ ?_|refine m8 (fun h=>?_)|refine c9 (c_g2 _ _ ?_) ?_ ?_|refine c9 (c_a _ ?_) ?_ ?_|refine c9 (c_ml _ ?_) ?_ ?_|fail)|((first|omega|assumption|(refine S _ ?_;omega));done))
          refine ⟨1,by omega,by omega,?_⟩
          refine zW1 ?_ <;> repeat' (with_reducible first|exact trivial|refine j3 ?_ ?_|refine t7 (fun i hi=>?_))
          all_goals exact u4.refl _
        · repeat' (first|refine n7 hc Tryz.results261 ?_|(with_reducible first|exact trivial|refine j3 ?_ ?_|refine m8 (fun h=>?_)|refine c9 (c_g2 _ _ ?_) ?_ ?_|refine c9 (c_a _ ?_) ?_ ?_|refine c9 (c_ml _ ?_) ?_ ?_|fail)|((first|omega|assumption|(refine S _ ?_;omega));done))
          refine ⟨2,by omega,by omega,?_⟩
          refine zW1 ?_ <;> repeat' (with_reducible first|exact trivial|refine j3 ?_ ?_|refine t7 (fun i hi=>?_))
          all_goals exact u4.refl _
        · repeat' (first|refine n7 hc Tryz.results261 ?_|(with_reducible first|exact trivial|refine j3 ?_ ?_|refine m8 (fun h=>?_)|refine c9 (c_g2 _ _ ?_) ?_ ?_|refine c9 (c_a _ ?_) ?_ ?_|refine c9 (c_ml _ ?_) ?_ ?_|fail)|((first|omega|assumption|(refine S _ ?_;omega));done))
          refine ⟨3,by omega,by omega,?_⟩
          refine zW1 ?_ <;> repeat' (with_reducible first|exact trivial|refine j3 ?_ ?_|refine t7 (fun i hi=>?_))
          all_goals exact u4.refl _
        · repeat' (first|refine n7 hc Tryz.results261 ?_|(with_reducible first|exact trivial|refine j3 ?_ ?_|refine m8 (fun h=>?_)|refine c9 (c_w _) ?_ ?_|refine c9 c_dv ?_ ?_|refine c9 (a3x _ _ _ _ ?_) ?_ ?_|refine c9 (a6z _ _ ?_ ?_) ?_ ?_|fail)|(omega;done))
end Go.Proofs
end
