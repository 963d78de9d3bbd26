/- Lemmas on the program and its library: part VR. -/
import Derived.Test.YtoiejgkkcfkliaaGreatDoorVA2
import Derived.Test.YtoiejgkkcfkliaaGreatDoorYW
set_option linter.unusedVariables false
set_option linter.unusedSimpArgs false
section
set_option maxHeartbeats 4000000
set_option maxRecDepth 100000
namespace Go.Proofs
open Go.Ax
theorem a09 (a b:Nat) (hb:0 < b):((a:Rat) / (b:Rat)).floor=((a / b:Nat):Int):=by
  have hb':(0:Rat) < (b:Rat):=Rat.natCast_pos.2 hb
  have hq:(a:Rat) / (b:Rat)*(b:Rat)=(a:Rat):=by grind
  have e:=Nat.div_add_mod a b
  have e1:(b:Rat)*((a / b:Nat):Rat)+((a%b:Nat):Rat)=(a:Rat):=by rw [←Rat.natCast_mul,←Rat.natCast_add,e]
  have m1:((a%b:Nat):Rat) < (b:Rat):=Rat.natCast_lt_natCast.2 (Nat.mod_lt a hb)
  have m0:(0:Rat)≤((a%b:Nat):Rat):=Rat.natCast_nonneg
  generalize (a:Rat) / (b:Rat)=q at *
  have h1:((a / b:Nat):Int)≤q.floor:=by
    rw [Rat.le_floor_iff]
    show ((a / b:Nat):Rat)≤q
    refine Rat.not_lt.1 fun h=>?_
    have:=Rat.mul_lt_mul_of_pos_right h hb'
    grind
  have h2:q.floor < ((a / b:Nat):Int)+1:=by
    rw [Rat.floor_lt_iff,Rat.intCast_add]
    show q < ((a / b:Nat):Rat)+1
    refine Rat.not_le.1 fun h=>?_
    have:=Rat.mul_le_mul_of_nonneg_right h (Rat.le_of_lt hb')
    grind
  omega
theorem a1d (a b:Nat) (hb:0 < b):(a:Rat) - (b:Rat)*((((a:Rat) / (b:Rat)).floor:Int):Rat)=((a%b:Nat):Rat):=by
  rw [a09 a b hb]
  have h:=Nat.div_add_mod a b
  have h2:(a:Rat)=(b:Rat)*((a / b:Nat):Rat)+((a%b:Nat):Rat):=by
    rw [←Rat.natCast_mul,←Rat.natCast_add,h]
  rw [show (((a / b:Nat):Int):Rat)=((a / b:Nat):Rat) from rfl]
  grind
theorem a1e {k:Nat} (hk:k≤245000) (a b:Nat) (ha:a < 2 ^ (k+1)) (hb:b < 2 ^ (k+1)):Ax.Pure Tryz.prog G 158 [S (bs (ratL (a:Rat))),S (bs (ratL (b:Rat)))] (S (bs (ratL ((Nat.gcd a b:Nat):Rat)))):=by
  refine zen Tryz.func158 rfl Tryz.ntmps158 ?_
  intro w0 E0 hc
  repeat' (first|refine zR1 hc Tryz.results158 ?_|(with_reducible first|exact trivial|refine zan ?_ ?_|refine zim (fun h=>?_)|fail)|(omega;done))
  refine Wp_loopI (α:=Nat×Nat) (fun p=>stOf [(0,S (bs (ratL (p.1:Rat)))),(1,S (bs (ratL (p.2:Rat))))] [] 0)
    (fun p=>p.1 < 2 ^ (k+1)∧p.2 < 2 ^ (k+1)∧Nat.gcd p.1 p.2=Nat.gcd a b) (fun p=>p.2) (a,b) ⟨ha,hb,rfl⟩ ?_ ?_
  · refine zW1 ?_ <;> repeat' (with_reducible first|exact trivial|refine zan ?_ ?_|refine zal (fun i hi=>?_))
  · rintro ⟨x,y⟩ ⟨h1,h2,h3⟩
    dsimp only at h1 h2 h3
    have c_z:=r_IsZero (y:Rat)
    have qx:Q (k+1) (x:Rat):=Q_nat h1
    have qy:Q (k+1) (y:Rat):=Q_nat h2
    by_cases h0:y=0
    · rw [decide_eq_true ((a14 y).2 h0)] at c_z
      repeat' (first|refine zR1 hc Tryz.results158 ?_|(with_reducible first|exact trivial|refine zan ?_ ?_|refine zim (fun h=>?_)|refine zoc c_z ?_ ?_|fail)|((first|(refine nf1 ?_;with_reducible assumption)|(refine nf2 ?_;with_reducible assumption));done))
      all_goals exact sub_eq (by rw [←h3,h0,Nat.gcd_zero_right])
    · rw [decide_eq_false (fun e=>h0 ((a14 y).1 e))] at c_z
      have hy:0 < y:=Nat.pos_of_ne_zero h0
      have c_d:=r_Div (x:Rat) (y:Rat) (fun e=>h0 ((a14 y).1 e)) qx qy (by omega)
      have qd:=Q_div qx qy
      have c_f:=r_Floor ((x:Rat) / (y:Rat)) qd (by omega)
      have qf:=Q_floor qd
      have c_m:=r_MulQ (y:Rat) (((x:Rat) / (y:Rat)).floor:Int) (k:=k+1+(k+1)+1) (Q_mono qy (by omega)) qf (by omega)
      have c_s:=r_Sub (x:Rat) ((y:Rat)*((((x:Rat) / (y:Rat)).floor:Int):Rat)) (k:=k+1+(k+1+(k+1)+1)) (Q_mono qx (by omega)) (Q_mul qy qf) (by omega)
      rw [a1d x y hy] at c_s
      repeat' (first|refine zR1 hc Tryz.results158 ?_|(with_reducible first|exact trivial|refine zan ?_ ?_|refine zim (fun h=>?_)|refine zoc c_z ?_ ?_|refine zoc c_d ?_ ?_|refine zoc c_f ?_ ?_|refine zoc c_m ?_ ?_|refine zoc c_s ?_ ?_|fail)|((first|(refine nf1 ?_;with_reducible assumption)|(refine nf2 ?_;with_reducible assumption));done))
      refine ⟨(y,x%y),⟨h2,Nat.lt_trans (Nat.mod_lt x hy) h2,by
          dsimp only;rw [←h3];exact (Nat.gcd_comm _ _).trans ((Nat.gcd_rec y x).symm.trans (Nat.gcd_comm _ _))⟩,Nat.mod_lt x hy,?_⟩
      refine zW1 ?_ <;> repeat' (with_reducible first|exact trivial|refine zan ?_ ?_|refine zal (fun i hi=>?_))
theorem a1b {z:Int} (h:okI z):digs BR z.natAbs=if z=0 then [] else [z.natAbs]:=by
  obtain ⟨h1,h2⟩:=h
  split
  · rename_i e;subst e;rfl
  · have hl:z.natAbs < BR:=by show z.natAbs < 1000000000;omega
    exact digs_of BR2 ⟨by simpa using hl,by simpa using (by omega:¬z.natAbs=0)⟩ (by simp [val])
theorem a1c (z:Int) (hz:okI z):Ax.Pure Tryz.prog G 161 [S (bs (ratL (z:Rat)))] (.tup [N z,Bo true]):=by
  have hd:=a1b hz
  obtain ⟨z1,z2⟩:=hz
  have qz:=okI_Q ⟨z1,z2⟩
  have c_w:=r_IsWhole (z:Rat) qz (by decide)
  rw [decide_eq_true (Rat.den_intCast z)] at c_w
  have hl:(Lib.decDigits z.natAbs).length≤9:=dec_len_le (Nat.lt_of_le_of_lt (show z.natAbs≤999999999 by omega) (by decide)) (by decide)
  have c_p:=r_parseInt z (by omega)
  rw [←ratL_int] at c_p
  have hs:(bs (ratL (z:Rat))).size≤10:=by
    rw [bs_size,ratL_int];have:=intL_len z;omega
  have c_p:Ax.Pure Tryz.prog G 134 [S (bs (ratL (z:Rat)))] (.agg [.v (.bool (decide (z < 0))),.ints .i64 (toI (if z=0 then [] else [z.natAbs]))]):=by rw [←hd];exact c_p
  by_cases h0:z=0
  · subst h0
    have c_p:Ax.Pure Tryz.prog G 134 [S (bs (ratL ((0:Int):Rat)))] (.agg [.v (.bool false),.ints .i64 []]):=c_p
    refine zen Tryz.func161 rfl Tryz.ntmps161 ?_
    intro w0 E0 hc
    repeat' (first|refine zR1 hc Tryz.results161 ?_|(with_reducible first|exact trivial|refine zan ?_ ?_|refine zim (fun h=>?_)|refine zoc c_w ?_ ?_|refine zoc c_p ?_ ?_|fail)|((first|omega|exact nft2 rfl h|fail);done))
    refine Wp_loopI (α:=Unit) (fun _=>stOf [(4,.one (.ptr 0 2 0 0)),(5,N 0),(6,N (-1))] [(0,⟨2,1,fun _=> [.v (.bool false),.ints .i64 []],false⟩)] 1) (fun _=>True) (fun _=>0) () trivial ?_ ?_
    · refine zW1 ?_ <;> repeat' (with_reducible first|exact trivial|refine zan ?_ ?_|refine zal (fun i hi=>?_))
    · rintro _ -
      repeat' (first|refine zR1 hc Tryz.results161 ?_|(with_reducible first|exact trivial|refine zan ?_ ?_|refine zim (fun h=>?_)|fail)|(omega;done))
      all_goals skip
  · rw [if_neg h0] at c_p
    have c_p:Ax.Pure Tryz.prog G 134 [S (bs (ratL (z:Rat)))] (.agg [.v (.bool (decide (z < 0))),.ints .i64 [(z.natAbs:Int)]]):=c_p
    refine zen Tryz.func161 rfl Tryz.ntmps161 ?_
    intro w0 E0 hc
    repeat' (first|refine zR1 hc Tryz.results161 ?_|(with_reducible first|exact trivial|refine zan ?_ ?_|refine zim (fun h=>?_)|refine zoc c_w ?_ ?_|refine zoc c_p ?_ ?_|fail)|((first|omega|exact nft2 rfl h|fail);done))
    refine Wp_loopI (α:=Int×Int) (fun p=>stOf [(4,.one (.ptr 0 2 0 0)),(5,N p.1),(6,N p.2)] [(0,⟨2,1,fun _=> [.v (.bool (decide (z < 0))),.ints .i64 [(z.natAbs:Int)]],false⟩)] 1) (fun p=>p=(0,0)∨p=(z,-1)) (fun p=>(p.2+1).toNat) (0,0) (.inl rfl) ?_ ?_
    · refine zW1 ?_ <;> repeat' (with_reducible first|exact trivial|refine zan ?_ ?_|refine zal (fun i hi=>?_))
    · rintro ⟨v,i⟩ (hv|hv)
      · obtain ⟨rfl,rfl⟩:=Prod.mk.inj hv
        repeat' (first|refine zR1 hc Tryz.results161 ?_|(with_reducible first|exact trivial|refine zan ?_ ?_|refine zim (fun h=>?_)|fail)|(omega;done))
        all_goals
          refine ⟨(z,-1),.inr rfl,Nat.zero_lt_one,?_⟩
          refine zW1 ?_ <;> repeat' (with_reducible first|exact trivial|refine zan ?_ ?_|refine zal (fun i hi=>?_))
          all_goals
            rw [show [(z.natAbs:Int)].getD 0 0=(z.natAbs:Int) from rfl]
            simp only [IntKind.wrap_i64]
            omega
      · obtain ⟨rfl,rfl⟩:=Prod.mk.inj hv
        repeat' (first|refine zR1 hc Tryz.results161 ?_|(with_reducible first|exact trivial|refine zan ?_ ?_|refine zim (fun h=>?_)|fail)|(omega;done))
end Go.Proofs
end
section
set_option maxHeartbeats 8000000
set_option maxRecDepth 100000
namespace Go.Proofs
open Go.Ax
theorem a07 (n:Nat):ratL ((n:Nat):Rat)=Lib.decDigits n:=by
  rw [show ((n:Nat):Rat)=(((n:Nat):Int):Rat) from rfl,ratL_int]
  unfold intL
  rw [if_neg (by omega),Int.natAbs_natCast]
theorem a1g (m n:Nat) (hm:0 < m):(m:Rat)*((n:Rat) / ((Nat.gcd m n:Nat):Rat))=((lc m n:Nat):Rat):=by
  have hg:0 < Nat.gcd m n:=Nat.gcd_pos_of_pos_left _ hm
  unfold lc
  obtain ⟨x,hx⟩:=Nat.gcd_dvd_left m n
  generalize Nat.gcd m n=g at *
  have hg':((g:Nat):Rat)≠0:=fun e=>by rw [a14] at e;omega
  subst hx
  rw [Nat.mul_div_cancel_left _ hg,Rat.natCast_mul,Rat.natCast_mul]
  grind
theorem a1a {x:Rat} {D:Nat} (h:x.den∣D):ratL (x*(D:Rat))=intL (x*(D:Rat)).num:=by
  obtain ⟨z,hz⟩:=a4n h
  rw [hz,ratL_int,Rat.num_intCast]
theorem a1f {q:Rat}:sgQ q≤0↔¬0 < q:=by
  rw [show 0 < q↔0 < q.num by rw [Rat.lt_iff];simp]
  unfold sgQ
  split
  · rename_i h;subst h;decide
  · rename_i h
    have:q.num≠0:=fun e=>h (Rat.num_eq_zero.1 e)
    split <;> omega
theorem a08 (m:Nat):0 < sgQ ((m:Rat) - ((999999999:Int):Rat))↔999999999 < m:=by
  have h:=@a1f ((m:Rat) - ((999999999:Int):Rat))
  have e:0 < (m:Rat) - ((999999999:Int):Rat)↔999999999 < m:=by
    rw [show ((999999999:Int):Rat)=((999999999:Nat):Rat) from rfl]
    constructor
    · intro h;exact Rat.natCast_lt_natCast.1 (by grind)
    · intro h;have:=Rat.natCast_lt_natCast.2 h;grind
  constructor
  · intro h1;exact Classical.byContradiction fun h2=>by have:=h.2 (fun h3=>h2 (e.1 h3));omega
  · intro h1;exact Classical.byContradiction fun h2=>(h.1 (by omega)) (e.2 h1)
theorem a34 {k kd:Nat} (hk:k≤60000) (hkd:kd≤300000) (a b c d:Rat) (h0:¬(a=0∧b=0∧c=0)) (qa:Q k a) (qb:Q k b) (qc:Q k c) (qd:Q kd d) :
    Ax.Pure Tryz.prog G 40 [tV (ratL a) (ratL b) (ratL c),S (bs (ratL d))] (if hOk a b c d then .tup [hT a b c d,N 0] else .tup [tH 0 0 0 [],N 4]):=by
  obtain ⟨r,hr,hcl⟩:∃r:AV,(r=if hOk a b c d then .tup [hT a b c d,N 0] else .tup [tH 0 0 0 [],N 4])∧r.cl 0:=⟨_,rfl,by split <;> exact ⟨⟨trivial,trivial,trivial,trivial,trivial⟩,trivial,trivial⟩⟩
  rw [←hr]
  have hor:=a2b a b c
  rw [decide_eq_false h0] at hor
  have c_or:=hor
  have hdl:=dnm_lt qa qb qc
  have hdp:=dnm_pos a b c
  obtain ⟨da,db,dc⟩:=a4g a b c
  obtain ⟨D,hD⟩:∃D,D=dnm a b c 3:=⟨_,rfl⟩
  have hDl:D < 2 ^ (3*k+1):=by rw [hD];exact hdl 3
  have hDp:0 < D:=by rw [hD];exact hdp 3
  rw [←hD] at da db dc
  have hcl2:=cmn_lt qa qb qc hDl
  obtain ⟨ea,eb,ec⟩:=a4j a b c D
  have hCp:0 < cmn a b c D 3:=cmn_pos hDp h0
  have qD:Q (3*k+1) ((D:Nat):Rat):=Q_nat hDl
  have c_den:∀x:Rat,Q k x→Ax.Pure Tryz.prog G 157 [S (bs (ratL x))] (S (bs (ratL ((x.den:Nat):Rat)))):=fun x hx=>by
    rw [a07];exact r_Den x hx (by omega)
  have c_gk:∀(x:Rat) (i:Nat),Q k x→Ax.Pure Tryz.prog G 158 [S (bs (ratL ((dnm a b c i:Nat):Rat))),S (bs (ratL ((x.den:Nat):Rat)))] (S (bs (ratL ((Nat.gcd (dnm a b c i) x.den:Nat):Rat)))):=fun x i hx=>
    a1e (k:=3*k) (by omega) _ _ (hdl i) (Nat.lt_of_lt_of_le hx.2 (Nat.pow_le_pow_right (by decide) (by omega)))
  have hgl:∀(x:Rat) (i:Nat),Q k x→Nat.gcd (dnm a b c i) x.den < 2 ^ (3*k+1):=fun x i hx=>gcd_lt (hdl i) (Nat.lt_of_lt_of_le hx.2 (Nat.pow_le_pow_right (by decide) (by omega)))
  have hgp:∀(x:Rat) (i:Nat),((Nat.gcd (dnm a b c i) x.den:Nat):Rat)≠0:=fun x i e=>by
    rw [a14] at e
    have:=Nat.gcd_pos_of_pos_left x.den (hdp i);omega
  have c_dk:∀(x:Rat) (i:Nat),Q k x→Ax.Pure Tryz.prog G 108 [S (bs (ratL ((x.den:Nat):Rat))),S (bs (ratL ((Nat.gcd (dnm a b c i) x.den:Nat):Rat)))] (S (bs (ratL (((x.den:Nat):Rat) / ((Nat.gcd (dnm a b c i) x.den:Nat):Rat))))):=fun x i hx=>
    r_Div _ _ (hgp x i) (k:=3*k+1) (Q_nat (Nat.lt_of_lt_of_le hx.2 (Nat.pow_le_pow_right (by decide) (by omega)))) (Q_nat (hgl x i hx)) (by omega)
  have c_mk:∀(x:Rat) (i:Nat),Q k x→Ax.Pure Tryz.prog G 74 [S (bs (ratL ((dnm a b c i:Nat):Rat))),S (bs (ratL (((x.den:Nat):Rat) / ((Nat.gcd (dnm a b c i) x.den:Nat):Rat))))] (S (bs (ratL ((lc (dnm a b c i) x.den:Nat):Rat)))):=fun x i hx=>by
    rw [←a1g _ _ (hdp i)]
    have q1:Q (3*k+1) ((x.den:Nat):Rat):=Q_nat (Nat.lt_of_lt_of_le hx.2 (Nat.pow_le_pow_right (by decide) (by omega)))
    have q2:Q (3*k+1) ((Nat.gcd (dnm a b c i) x.den:Nat):Rat):=Q_nat (hgl x i hx)
    exact r_MulQ _ _ (k:=3*k+1+(3*k+1)) (Q_mono (Q_nat (hdl i)) (by omega)) (Q_div q1 q2) (by omega)
  have c_m2:∀x:Rat,Q k x→Ax.Pure Tryz.prog G 74 [S (bs (ratL x)),S (bs (ratL ((D:Nat):Rat)))] (S (bs (ratL (x*((D:Nat):Rat))))):=fun x hx=>
    r_MulQ _ _ (k:=3*k+1) (Q_mono hx (by omega)) qD (by omega)
  have c_ab:∀x:Rat,Q k x→x.den∣D→Ax.Pure Tryz.prog G 159 [S (bs (ratL (x*((D:Nat):Rat))))] (S (bs (ratL ((nmr x D:Nat):Rat)))):=fun x hx hd=>by
    rw [a07,a1a hd]
    have hl:=Q_dl (Q_mul hx qD)
    exact r_AbsI _ (by have:=intL_len (x*((D:Nat):Rat)).num;omega)
  have c_g2:∀(x:Rat) (i:Nat),Q k x→Ax.Pure Tryz.prog G 158 [S (bs (ratL ((nmr x D:Nat):Rat))),S (bs (ratL ((cmn a b c D i:Nat):Rat)))] (S (bs (ratL ((Nat.gcd (cmn a b c D i) (nmr x D):Nat):Rat)))):=fun x i hx=>by
    rw [Nat.gcd_comm]
    exact a1e (k:=k+3*k) (by omega) _ _ (show nmr x D < 2 ^ (k+(3*k+1)) from nmr_lt hx hDl) (hcl2 i)
  have hCr:((cmn a b c D 3:Nat):Rat)≠0:=fun e=>by rw [a14] at e;omega
  have qC:Q (k+(3*k+1)) ((cmn a b c D 3:Nat):Rat):=Q_nat (k:=k+3*k) (hcl2 3)
  have hnr:nrm a b c=((D:Nat):Rat) / ((cmn a b c D 3:Nat):Rat):=by rw [hD];rfl
  have c_nr:Ax.Pure Tryz.prog G 108 [S (bs (ratL ((D:Nat):Rat))),S (bs (ratL ((cmn a b c D 3:Nat):Rat)))] (S (bs (ratL (nrm a b c)))):=by
    rw [hnr];exact r_Div _ _ hCr (k:=k+(3*k+1)) (Q_mono qD (by omega)) qC (by omega)
  have qN:Q (3*k+1+(k+(3*k+1))) (nrm a b c):=by rw [hnr];exact Q_div qD qC
  have c_hd:=r_MulQ d (nrm a b c) (k:=kd+(3*k+1+(k+(3*k+1)))) (Q_mono qd (by omega)) (Q_mono qN (by omega)) (by omega)
  have c_m3:∀x:Rat,Q k x→Ax.Pure Tryz.prog G 74 [S (bs (ratL x)),S (bs (ratL (nrm a b c)))] (S (bs (ratL (x*nrm a b c)))):=fun x hx=>
    r_MulQ _ _ (k:=3*k+1+(k+(3*k+1))) (Q_mono hx (by omega)) qN (by omega)
  have c_lg:=r_Large (d*nrm a b c) (k:=kd+(3*k+1+(k+(3*k+1)))) (Q_mul qd qN) (by omega)
  have c_mx:=r_FromI 999999999 ⟨by decide,by decide⟩
  have iA:a*nrm a b c=(((a*nrm a b c).num:Int):Rat):=by rw [hnr];exact a2g da ea hCp
  have iB:b*nrm a b c=(((b*nrm a b c).num:Int):Rat):=by rw [hnr];exact a2g db eb hCp
  have iC:c*nrm a b c=(((c*nrm a b c).num:Int):Rat):=by rw [hnr];exact a2g dc ec hCp
  have c_ma:=c_m3 a qa
  have c_mb:=c_m3 b qb
  have c_mc:=c_m3 c qc
  have qza:=Q_mul qa qN
  have qzb:=Q_mul qb qN
  have qzc:=Q_mul qc qN
  have hr1:((okI (a*nrm a b c).num∧okI (b*nrm a b c).num∧okI (c*nrm a b c).num)∧bigQ (d*nrm a b c)=false)→r= .tup [tH (a*nrm a b c).num (b*nrm a b c).num (c*nrm a b c).num (ratL (d*nrm a b c)),N 0]:=fun h=>by
    rw [hr,if_pos (show hOk a b c d from h)]
  have hr2:¬((okI (a*nrm a b c).num∧okI (b*nrm a b c).num∧okI (c*nrm a b c).num)∧bigQ (d*nrm a b c)=false)→r= .tup [tH 0 0 0 [],N 4]:=fun h=>by
    rw [hr,if_neg (show ¬hOk a b c d from h)]
  clear hr
  rw [iA] at c_ma qza
  rw [iB] at c_mb qzb
  rw [iC] at c_mc qzc
  generalize (a*nrm a b c).num=X at *
  generalize (b*nrm a b c).num=Y at *
  generalize (c*nrm a b c).num=Z at *
  generalize hE:d*nrm a b c=E at *
  generalize nrm a b c=nr at *
  have c_az:∀z:Int,Q (k+(3*k+1+(k+(3*k+1)))) (z:Rat)→Ax.Pure Tryz.prog G 159 [S (bs (ratL (z:Rat)))] (S (bs (ratL ((z.natAbs:Nat):Rat)))):=fun z hz=>by
    rw [a07,ratL_int]
    have hl:=Q_dl hz
    rw [Rat.num_intCast] at hl
    exact r_AbsI _ (by have:=intL_len z;omega)
  have c_cz:∀z:Int,Q (k+(3*k+1+(k+(3*k+1)))) (z:Rat)→Ax.Pure Tryz.prog G 106 [S (bs (ratL ((z.natAbs:Nat):Rat))),S (bs (ratL ((999999999:Int):Rat)))] (N (sgQ (((z.natAbs:Nat):Rat) - ((999999999:Int):Rat)))):=fun z hz=>
    r_Cmp _ _ (k:=k+(3*k+1+(k+(3*k+1)))+64) (Q_mono (Q_nat (k:=k+(3*k+1+(k+3*k))) (m:=z.natAbs) (by have:=hz.1;rw [Rat.num_intCast] at this;exact this)) (by omega)) (Q_mono (Q_i64 (by decide) (by decide)) (by omega)) (by omega)
  have c_ti:∀z:Int,okI z→Ax.Pure Tryz.prog G 161 [S (bs (ratL (z:Rat)))] (.tup [N z,Bo true]):=fun z hz=>a1c z hz
  have sX:=a08 X.natAbs
  have sY:=a08 Y.natAbs
  have sZ:=a08 Z.natAbs
  have c_zX:=c_cz X qza
  have c_zY:=c_cz Y qzb
  have c_zZ:=c_cz Z qzc
  generalize sgQ (((X.natAbs:Nat):Rat) - ((999999999:Int):Rat))=gX at *
  generalize sgQ (((Y.natAbs:Nat):Rat) - ((999999999:Int):Rat))=gY at *
  generalize sgQ (((Z.natAbs:Nat):Rat) - ((999999999:Int):Rat))=gZ at *
  have c_tX:¬0 < gX→Ax.Pure Tryz.prog G 161 [S (bs (ratL (X:Rat)))] (.tup [N X,Bo true]):=fun h=>c_ti X ⟨by omega,by omega⟩
  have c_tY:¬0 < gY→Ax.Pure Tryz.prog G 161 [S (bs (ratL (Y:Rat)))] (.tup [N Y,Bo true]):=fun h=>c_ti Y ⟨by omega,by omega⟩
  have c_tZ:¬0 < gZ→Ax.Pure Tryz.prog G 161 [S (bs (ratL (Z:Rat)))] (.tup [N Z,Bo true]):=fun h=>c_ti Z ⟨by omega,by omega⟩
  have c_aX:=c_az X qza
  have c_aY:=c_az Y qzb
  have c_aZ:=c_az Z qzc
  have hfX:0 < gX→r= .tup [tH 0 0 0 [],N 4]:=fun h=>hr2 (fun e=>by obtain ⟨u,v⟩:=e.1.1;omega)
  have hfY:0 < gY→r= .tup [tH 0 0 0 [],N 4]:=fun h=>hr2 (fun e=>by obtain ⟨u,v⟩:=e.1.2.1;omega)
  have hfZ:0 < gZ→r= .tup [tH 0 0 0 [],N 4]:=fun h=>hr2 (fun e=>by obtain ⟨u,v⟩:=e.1.2.2;omega)
  refine zen Tryz.func40 rfl Tryz.ntmps40 ?_ (hr:=hcl)
  intro w0 E0 hc
  repeat' (first|(with_reducible first|refine Wp_seq ?_|refine zr0 hc ?_|refine zm0 hc ?_|refine zwk ?_|refine Wp_block ?_|refine zgo ?_|refine zbn ?_|refine zge Tryz.results40 ?_|refine Sub.refl _|refine allP_nil|refine zoa1 (out':=?_) ?_|refine zca1 (y:=?_) ?_|refine zea1 (eo':=?_) ?_)|(with_reducible refine allP_cons ?_ ?_;focus (first|decide|omega))|(with_reducible first|refine zg2 ?_ ?_|refine zoc c_or ?_ ?_|refine zbo ?_|refine zg3 ?_ (fun h=>?_) (fun h=>?_)|refine zg4 (fun h=>?_) (fun h=>?_)|fail)|(omega;done))
  have S3:∀i:Nat,i < 3→0 < 3∧(0≤(i:Int)∧(i:Int) < ((3:Nat):Int))∧(true=false→3=1):=fun i hi=>⟨by omega,by omega,fun e=>(by cases e)⟩
  refine Wp_loopI (α:=Nat) (fun i=>stOf [(1,S (bs (ratL d))),(2,.one (.ptr 0 3 0 0)),(4,.one (.ptr 1 4 0 0)),(6,S (bs (ratL ((dnm a b c i:Nat):Rat)))),(7,N i)] [(0,⟨3,1,fun _=> [.v (.string (bs (ratL a))),.v (.string (bs (ratL b))),.v (.string (bs (ratL c)))],false⟩),(1,⟨4,1,fun _=> [.v (.int .i64 0),.v (.int .i64 0),.v (.int .i64 0),.v (.string ⟨#[]⟩)],false⟩)] 2)
    (fun i=>i≤3) (fun i=>3 - i) 0 (Nat.zero_le _) ?_ ?_
  · refine zW1 ?_ <;> repeat' (with_reducible first|exact trivial|refine zan ?_ ?_|refine zal (fun i hi=>?_))
    all_goals exact sub_eq (by rw [a07,show Lib.decDigits (dnm a b c 0)= [49] from (by decide +kernel:Lib.decDigits 1= [49])])
  · intro i hi
    have:i=0∨i=1∨i=2∨i=3:=by omega
    rcases this with rfl|rfl|rfl|rfl
    · have c_1:=c_den a qa
      have c_2:=c_gk a 0 qa
      have c_3:=c_dk a 0 qa
      have c_4:=c_mk a 0 qa
      repeat' (first|(with_reducible first|refine Wp_seq ?_|refine zr0 hc ?_|refine zm0 hc ?_|refine zwk ?_|refine Wp_block ?_|refine zgo ?_|refine zbn ?_|refine zge Tryz.results40 ?_|refine Sub.refl _|refine allP_nil|refine zoa1 (out':=?_) ?_|refine zca1 (y:=?_) ?_|refine zea1 (eo':=?_) ?_)|(with_reducible refine allP_cons ?_ ?_;focus (first|decide|omega))|(with_reducible first|refine zg2 ?_ ?_|refine zoc c_1 ?_ ?_|refine zoc c_2 ?_ ?_|refine zoc c_3 ?_ ?_|refine zoc c_4 ?_ ?_|refine zbo ?_|refine zg3 ?_ (fun h=>?_) (fun h=>?_)|refine zg4 (fun h=>?_) (fun h=>?_)|fail)|((first|omega|(refine S3 _ ?_;omega));done))
      refine ⟨1,by omega,by omega,?_⟩
      refine zW1 ?_ <;> repeat' (with_reducible first|exact trivial|refine zan ?_ ?_|refine zal (fun i hi=>?_))
      all_goals exact Sub.refl _
    · have c_1:=c_den b qb
      have c_2:=c_gk b 1 qb
      have c_3:=c_dk b 1 qb
      have c_4:=c_mk b 1 qb
      repeat' (first|(with_reducible first|refine Wp_seq ?_|refine zr0 hc ?_|refine zm0 hc ?_|refine zwk ?_|refine Wp_block ?_|refine zgo ?_|refine zbn ?_|refine zge Tryz.results40 ?_|refine Sub.refl _|refine allP_nil|refine zoa1 (out':=?_) ?_|refine zca1 (y:=?_) ?_|refine zea1 (eo':=?_) ?_)|(with_reducible refine allP_cons ?_ ?_;focus (first|decide|omega))|(with_reducible first|refine zg2 ?_ ?_|refine zoc c_1 ?_ ?_|refine zoc c_2 ?_ ?_|refine zoc c_3 ?_ ?_|refine zoc c_4 ?_ ?_|refine zbo ?_|refine zg3 ?_ (fun h=>?_) (fun h=>?_)|refine zg4 (fun h=>?_) (fun h=>?_)|fail)|((first|omega|(refine S3 _ ?_;omega));done))
      refine ⟨2,by omega,by omega,?_⟩
      refine zW1 ?_ <;> repeat' (with_reducible first|exact trivial|refine zan ?_ ?_|refine zal (fun i hi=>?_))
      all_goals exact Sub.refl _
    · have c_1:=c_den c qc
      have c_2:=c_gk c 2 qc
      have c_3:=c_dk c 2 qc
      have c_4:=c_mk c 2 qc
      repeat' (first|(with_reducible first|refine Wp_seq ?_|refine zr0 hc ?_|refine zm0 hc ?_|refine zwk ?_|refine Wp_block ?_|refine zgo ?_|refine zbn ?_|refine zge Tryz.results40 ?_|refine Sub.refl _|refine allP_nil|refine zoa1 (out':=?_) ?_|refine zca1 (y:=?_) ?_|refine zea1 (eo':=?_) ?_)|(with_reducible refine allP_cons ?_ ?_;focus (first|decide|omega))|(with_reducible first|refine zg2 ?_ ?_|refine zoc c_1 ?_ ?_|refine zoc c_2 ?_ ?_|refine zoc c_3 ?_ ?_|refine zoc c_4 ?_ ?_|refine zbo ?_|refine zg3 ?_ (fun h=>?_) (fun h=>?_)|refine zg4 (fun h=>?_) (fun h=>?_)|fail)|((first|omega|(refine S3 _ ?_;omega));done))
      refine ⟨3,by omega,by omega,?_⟩
      refine zW1 ?_ <;> repeat' (with_reducible first|exact trivial|refine zan ?_ ?_|refine zal (fun i hi=>?_))
      all_goals exact Sub.refl _
    · repeat' (first|(with_reducible first|refine Wp_seq ?_|refine zr0 hc ?_|refine zm0 hc ?_|refine zwk ?_|refine Wp_block ?_|refine zgo ?_|refine zbn ?_|refine zge Tryz.results40 ?_|refine Sub.refl _|refine allP_nil|refine zoa1 (out':=?_) ?_|refine zca1 (y:=?_) ?_|refine zea1 (eo':=?_) ?_)|(with_reducible refine allP_cons ?_ ?_;focus (first|decide|omega))|(with_reducible first|refine zg2 ?_ ?_|refine zbo ?_|refine zg3 ?_ (fun h=>?_) (fun h=>?_)|refine zg4 (fun h=>?_) (fun h=>?_)|fail)|((first|omega|(refine S3 _ ?_;omega));done))
      refine Wp_loopI (α:=Nat) (fun i=>stOf [(1,S (bs (ratL d))),(2,.one (.ptr 0 3 0 0)),(4,.one (.ptr 1 4 0 0)),(6,S (bs (ratL ((D:Nat):Rat)))),(9,S (bs (ratL ((cmn a b c D i:Nat):Rat)))),(10,N i)] [(0,⟨3,1,fun _=> [.v (.string (bs (ratL a))),.v (.string (bs (ratL b))),.v (.string (bs (ratL c)))],false⟩),(1,⟨4,1,fun _=> [.v (.int .i64 0),.v (.int .i64 0),.v (.int .i64 0),.v (.string ⟨#[]⟩)],false⟩)] 2)
        (fun i=>i≤3) (fun i=>3 - i) 0 (Nat.zero_le _) ?_ ?_
      · refine zW1 ?_ <;> repeat' (with_reducible first|exact trivial|refine zan ?_ ?_|refine zal (fun i hi=>?_))
        · exact sub_eq (by rw [hD])
        · exact sub_eq (by rw [a07,show Lib.decDigits (cmn a b c D 0)= [48] from (by decide +kernel:Lib.decDigits 0= [48])])
      · intro i hi
        have:i=0∨i=1∨i=2∨i=3:=by omega
        rcases this with rfl|rfl|rfl|rfl
        · have c_1:=c_m2 a qa
          have c_2:=c_ab a qa da
          have c_3:=c_g2 a 0 qa
          repeat' (first|(with_reducible first|refine Wp_seq ?_|refine zr0 hc ?_|refine zm0 hc ?_|refine zwk ?_|refine Wp_block ?_|refine zgo ?_|refine zbn ?_|refine zge Tryz.results40 ?_|refine Sub.refl _|refine allP_nil|refine zoa1 (out':=?_) ?_|refine zca1 (y:=?_) ?_|refine zea1 (eo':=?_) ?_)|(with_reducible refine allP_cons ?_ ?_;focus (first|decide|omega))|(with_reducible first|refine zg2 ?_ ?_|refine zoc c_1 ?_ ?_|refine zoc c_2 ?_ ?_|refine zoc c_3 ?_ ?_|refine zbo ?_|refine zg3 ?_ (fun h=>?_) (fun h=>?_)|refine zg4 (fun h=>?_) (fun h=>?_)|fail)|((first|omega|(refine S3 _ ?_;omega));done))
          refine ⟨1,by omega,by omega,?_⟩
          refine zW1 ?_ <;> repeat' (with_reducible first|exact trivial|refine zan ?_ ?_|refine zal (fun i hi=>?_))
          all_goals exact Sub.refl _
        · have c_1:=c_m2 b qb
          have c_2:=c_ab b qb db
          have c_3:=c_g2 b 1 qb
          repeat' (first|(with_reducible first|refine Wp_seq ?_|refine zr0 hc ?_|refine zm0 hc ?_|refine zwk ?_|refine Wp_block ?_|refine zgo ?_|refine zbn ?_|refine zge Tryz.results40 ?_|refine Sub.refl _|refine allP_nil|refine zoa1 (out':=?_) ?_|refine zca1 (y:=?_) ?_|refine zea1 (eo':=?_) ?_)|(with_reducible refine allP_cons ?_ ?_;focus (first|decide|omega))|(with_reducible first|refine zg2 ?_ ?_|refine zoc c_1 ?_ ?_|refine zoc c_2 ?_ ?_|refine zoc c_3 ?_ ?_|refine zbo ?_|refine zg3 ?_ (fun h=>?_) (fun h=>?_)|refine zg4 (fun h=>?_) (fun h=>?_)|fail)|((first|omega|(refine S3 _ ?_;omega));done))
          refine ⟨2,by omega,by omega,?_⟩
          refine zW1 ?_ <;> repeat' (with_reducible first|exact trivial|refine zan ?_ ?_|refine zal (fun i hi=>?_))
          all_goals exact Sub.refl _
        · have c_1:=c_m2 c qc
          have c_2:=c_ab c qc dc
          have c_3:=c_g2 c 2 qc
          repeat' (first|(with_reducible first|refine Wp_seq ?_|refine zr0 hc ?_|refine zm0 hc ?_|refine zwk ?_|refine Wp_block ?_|refine zgo ?_|refine zbn ?_|refine zge Tryz.results40 ?_|refine Sub.refl _|refine allP_nil|refine zoa1 (out':=?_) ?_|refine zca1 (y:=?_) ?_|refine zea1 (eo':=?_) ?_)|(with_reducible refine allP_cons ?_ ?_;focus (first|decide|omega))|(with_reducible first|refine zg2 ?_ ?_|refine zoc c_1 ?_ ?_|refine zoc c_2 ?_ ?_|refine zoc c_3 ?_ ?_|refine zbo ?_|refine zg3 ?_ (fun h=>?_) (fun h=>?_)|refine zg4 (fun h=>?_) (fun h=>?_)|fail)|((first|omega|(refine S3 _ ?_;omega));done))
          refine ⟨3,by omega,by omega,?_⟩
          refine zW1 ?_ <;> repeat' (with_reducible first|exact trivial|refine zan ?_ ?_|refine zal (fun i hi=>?_))
          all_goals exact Sub.refl _
        · have S4:∀i:Nat,i < 3→0 < 4∧(0≤(i:Int)∧(i:Int) < ((3:Nat):Int))∧(true=false→4=1):=fun i hi=>⟨by omega,by omega,fun e=>(by cases e)⟩
          repeat' (first|(with_reducible first|refine Wp_seq ?_|refine zr0 hc ?_|refine zm0 hc ?_|refine zwk ?_|refine Wp_block ?_|refine zgo ?_|refine zbn ?_|refine zge Tryz.results40 ?_|refine Sub.refl _|refine allP_nil|refine zoa1 (out':=?_) ?_|refine zca1 (y:=?_) ?_|refine zea1 (eo':=?_) ?_)|(with_reducible refine allP_cons ?_ ?_;focus (first|decide|omega))|(with_reducible first|refine zg2 ?_ ?_|refine zoc c_nr ?_ ?_|refine zoc c_hd ?_ ?_|refine zbo ?_|refine zg3 ?_ (fun h=>?_) (fun h=>?_)|refine zg4 (fun h=>?_) (fun h=>?_)|fail)|((first|omega|(refine S3 _ ?_;omega));done))
          refine Wp_loopI (α:=Nat×Int×Int×Int) (fun p=>stOf [(1,S (bs (ratL d))),(2,.one (.ptr 0 3 0 0)),(4,.one (.ptr 1 4 0 0)),(6,S (bs (ratL nr))),(11,.one (.ptr 2 4 0 0)),(12,N p.1)] [(0,⟨3,1,fun _=> [.v (.string (bs (ratL a))),.v (.string (bs (ratL b))),.v (.string (bs (ratL c)))],false⟩),(1,⟨4,1,fun _=> [.v (.int .i64 0),.v (.int .i64 0),.v (.int .i64 0),.v (.string ⟨#[]⟩)],false⟩),(2,⟨4,1,fun _=> [.v (.int .i64 p.2.1),.v (.int .i64 p.2.2.1),.v (.int .i64 p.2.2.2),.v (.string (bs (ratL E)))],false⟩)] 3)
            (fun p=>p=(0,0,0,0)∨(p=(1,X,0,0)∧¬0 < gX)∨(p=(2,X,Y,0)∧¬0 < gX∧¬0 < gY)∨(p=(3,X,Y,Z)∧¬0 < gX∧¬0 < gY∧¬0 < gZ)) (fun p=>3 - p.1) (0,0,0,0) (.inl rfl) ?_ ?_
          · refine zW1 ?_ <;> repeat' (with_reducible first|exact trivial|refine zan ?_ ?_|refine zal (fun i hi=>?_))
            all_goals skip
          · rintro ⟨i,x,y,z⟩ (hv|⟨hv,gx⟩|⟨hv,gx,gy⟩|⟨hv,gx,gy,gz⟩)
            · cases hv
              repeat' (first|(with_reducible first|refine Wp_seq ?_|refine zr0 hc ?_|refine zm0 hc ?_|refine zwk ?_|refine Wp_block ?_|refine zgo ?_|refine zbn ?_|refine zge Tryz.results40 ?_|refine Sub.refl _|refine allP_nil|refine zoa1 (out':=?_) ?_|refine zca1 (y:=?_) ?_|refine zea1 (eo':=?_) ?_)|(with_reducible refine allP_cons ?_ ?_;focus (first|decide|omega))|(with_reducible first|refine zg2 ?_ ?_|refine zoc c_ma ?_ ?_|refine zoc c_aX ?_ ?_|refine zoc c_mx ?_ ?_|refine zoc c_zX ?_ ?_|refine zoc (c_tX ?_) ?_ ?_|refine zbo ?_|refine zg3 ?_ (fun h=>?_) (fun h=>?_)|refine zg4 (fun h=>?_) (fun h=>?_)|fail)|((first|omega|(refine S3 _ ?_;omega)|(refine S4 _ ?_;omega));done))
              · exact sub_eq (by rw [hfX (by omega)])
              · refine ⟨(1,X,0,0),.inr (.inl ⟨rfl,by omega⟩),by dsimp only;omega,?_⟩
                refine zW1 ?_ <;> repeat' (with_reducible first|exact trivial|refine zan ?_ ?_|refine zal (fun i hi=>?_))
                all_goals exact SubLv.refl _
            · cases hv
              repeat' (first|(with_reducible first|refine Wp_seq ?_|refine zr0 hc ?_|refine zm0 hc ?_|refine zwk ?_|refine Wp_block ?_|refine zgo ?_|refine zbn ?_|refine zge Tryz.results40 ?_|refine Sub.refl _|refine allP_nil|refine zoa1 (out':=?_) ?_|refine zca1 (y:=?_) ?_|refine zea1 (eo':=?_) ?_)|(with_reducible refine allP_cons ?_ ?_;focus (first|decide|omega))|(with_reducible first|refine zg2 ?_ ?_|refine zoc c_mb ?_ ?_|refine zoc c_aY ?_ ?_|refine zoc c_mx ?_ ?_|refine zoc c_zY ?_ ?_|refine zoc (c_tY ?_) ?_ ?_|refine zbo ?_|refine zg3 ?_ (fun h=>?_) (fun h=>?_)|refine zg4 (fun h=>?_) (fun h=>?_)|fail)|((first|omega|(refine S3 _ ?_;omega)|(refine S4 _ ?_;omega));done))
              · exact sub_eq (by rw [hfY (by omega)])
              · refine ⟨(2,X,Y,0),.inr (.inr (.inl ⟨rfl,gx,by omega⟩)),by dsimp only;omega,?_⟩
                refine zW1 ?_ <;> repeat' (with_reducible first|exact trivial|refine zan ?_ ?_|refine zal (fun i hi=>?_))
                all_goals exact SubLv.refl _
            · cases hv
              repeat' (first|(with_reducible first|refine Wp_seq ?_|refine zr0 hc ?_|refine zm0 hc ?_|refine zwk ?_|refine Wp_block ?_|refine zgo ?_|refine zbn ?_|refine zge Tryz.results40 ?_|refine Sub.refl _|refine allP_nil|refine zoa1 (out':=?_) ?_|refine zca1 (y:=?_) ?_|refine zea1 (eo':=?_) ?_)|(with_reducible refine allP_cons ?_ ?_;focus (first|decide|omega))|(with_reducible first|refine zg2 ?_ ?_|refine zoc c_mc ?_ ?_|refine zoc c_aZ ?_ ?_|refine zoc c_mx ?_ ?_|refine zoc c_zZ ?_ ?_|refine zoc (c_tZ ?_) ?_ ?_|refine zbo ?_|refine zg3 ?_ (fun h=>?_) (fun h=>?_)|refine zg4 (fun h=>?_) (fun h=>?_)|fail)|((first|omega|(refine S3 _ ?_;omega)|(refine S4 _ ?_;omega));done))
              · exact sub_eq (by rw [hfZ (by omega)])
              · refine ⟨(3,X,Y,Z),.inr (.inr (.inr ⟨rfl,gx,gy,by omega⟩)),by dsimp only;omega,?_⟩
                refine zW1 ?_ <;> repeat' (with_reducible first|exact trivial|refine zan ?_ ?_|refine zal (fun i hi=>?_))
                all_goals exact SubLv.refl _
            · cases hv
              cases hbE:bigQ E
              · have c_l:Ax.Pure Tryz.prog G 140 [S (bs (ratL E))] (N 0):=by rw [hbE] at c_lg;exact c_lg
                have e:=hr1 ⟨⟨⟨by omega,by omega⟩,⟨by omega,by omega⟩,⟨by omega,by omega⟩⟩,hbE⟩
                subst e
                repeat' (first|(with_reducible first|refine Wp_seq ?_|refine zr0 hc ?_|refine zm0 hc ?_|refine zwk ?_|refine Wp_block ?_|refine zgo ?_|refine zbn ?_|refine zge Tryz.results40 ?_|refine Sub.refl _|refine allP_nil|refine zoa1 (out':=?_) ?_|refine zca1 (y:=?_) ?_|refine zea1 (eo':=?_) ?_)|(with_reducible refine allP_cons ?_ ?_;focus (first|decide|omega))|(with_reducible first|refine zg2 ?_ ?_|refine zoc c_l ?_ ?_|refine zbo ?_|refine zg3 ?_ (fun h=>?_) (fun h=>?_)|refine zg4 (fun h=>?_) (fun h=>?_)|fail)|((first|omega|(refine S3 _ ?_;omega));done))
                all_goals exact Sub.refl _
              · have c_l:Ax.Pure Tryz.prog G 140 [S (bs (ratL E))] (N 4):=by rw [hbE] at c_lg;exact c_lg
                have e:=hr2 (fun e=>by have:=e.2;rw [hbE] at this;cases this)
                subst e
                repeat' (first|(with_reducible first|refine Wp_seq ?_|refine zr0 hc ?_|refine zm0 hc ?_|refine zwk ?_|refine Wp_block ?_|refine zgo ?_|refine zbn ?_|refine zge Tryz.results40 ?_|refine Sub.refl _|refine allP_nil|refine zoa1 (out':=?_) ?_|refine zca1 (y:=?_) ?_|refine zea1 (eo':=?_) ?_)|(with_reducible refine allP_cons ?_ ?_;focus (first|decide|omega))|(with_reducible first|refine zg2 ?_ ?_|refine zoc c_l ?_ ?_|refine zbo ?_|refine zg3 ?_ (fun h=>?_) (fun h=>?_)|refine zg4 (fun h=>?_) (fun h=>?_)|fail)|((first|omega|(refine S3 _ ?_;omega));done))
                all_goals exact Sub.refl _
end Go.Proofs
end
