/- Lemmas on the program and its library: part ZW34. -/
import Derived.Test.YtoiejgkkcfkliaaGreatDoorZW32
set_option linter.unusedVariables false
set_option linter.unusedSimpArgs false
section
set_option maxHeartbeats 4000000
set_option maxRecDepth 100000
namespace Go.Proofs
open Go.Ax
theorem c_turn1 {k:Nat} (hk:k≤20000) (v1 v2 v3 sq own two w u1 u2 u3:Rat) (h0:sq+own≠0) (qv:Q k v1∧Q k v2∧Q k v3) (qu:Q k u1∧Q k u2∧Q k u3) (qs:Q k sq) (qo:Q k own) (qt:Q k two) (qw:Q k w):Ax.Pure Tryz.prog G 187 [vA v1 v2 v3,.one (.pp [.frac sq]),.one (.pp [.frac own]),.one (.pp [.frac u1,.frac u2,.frac u3]),.one (.pp [.frac two]),.one (.pp [.frac w])] (vA ((v1*(sq - own)+(u2*v3 - u3*v2)*(two*w)+u1*(two*dot3 u1 u2 u3 v1 v2 v3))*(sq+own)⁻¹) ((v2*(sq - own)+(u3*v1 - u1*v3)*(two*w)+u2*(two*dot3 u1 u2 u3 v1 v2 v3))*(sq+own)⁻¹) ((v3*(sq - own)+(u1*v2 - u2*v1)*(two*w)+u3*(two*dot3 u1 u2 u3 v1 v2 v3))*(sq+own)⁻¹)):=by
  obtain ⟨qv1,qv2,qv3⟩:=qv
  obtain ⟨qu1,qu2,qu3⟩:=qu
  have R:∀{k':Nat} {q:Rat},Q k' q→k'≤1000000→rz q≤1000000:=fun h hh=>Nat.le_trans (Q_rz h) hh
  have qd:=Q_sub qs qo
  have c_1:=c_FSub sq own (Nat.le_trans (R qs (by omega)) (by decide)) (Nat.le_trans (R qo (by omega)) (by decide))
  have qtw:=Q_mul qt qw
  have qdt:=Q_dot qu1 qu2 qu3 qv1 qv2 qv3
  have qtd:=Q_mul qt qdt
  have qi:=Q_inv (Q_add qs qo)
  have z1:=R qv1 (by omega)
  have z2:=R qv2 (by omega)
  have z3:=R qv3 (by omega)
  have z4:=R qu1 (by omega)
  have z5:=R qu2 (by omega)
  have z6:=R qu3 (by omega)
  have z7:=R qs (by omega)
  have z8:=R qo (by omega)
  have z9:=R qt (by omega)
  have za:=R qw (by omega)
  have zb:=R qd (by omega)
  have zc:=R qtw (by omega)
  have zd:=R qdt (by omega)
  have ze:=R qtd (by omega)
  have zf:=R qi (by omega)
  have zg:=R (Q_add qs qo) (by omega)
  have x1:=Q_sub (Q_mul qu2 qv3) (Q_mul qu3 qv2)
  have zx1:=R x1 (by omega)
  have x2:=Q_sub (Q_mul qu3 qv1) (Q_mul qu1 qv3)
  have zx2:=R x2 (by omega)
  have x3:=Q_sub (Q_mul qu1 qv2) (Q_mul qu2 qv1)
  have zx3:=R x3 (by omega)
  have m1:=Q_add (Q_mul qv1 qd) (Q_mul x1 qtw)
  have zm1:=R m1 (by omega)
  have y1:=R (Q_mul qv1 qd) (by omega)
  have yy1:=R (Q_mul x1 qtw) (by omega)
  have yu1:=R (Q_mul qu1 qtd) (by omega)
  have zn1:=R (Q_add m1 (Q_mul qu1 qtd)) (by omega)
  have m2:=Q_add (Q_mul qv2 qd) (Q_mul x2 qtw)
  have zm2:=R m2 (by omega)
  have y2:=R (Q_mul qv2 qd) (by omega)
  have yy2:=R (Q_mul x2 qtw) (by omega)
  have yu2:=R (Q_mul qu2 qtd) (by omega)
  have zn2:=R (Q_add m2 (Q_mul qu2 qtd)) (by omega)
  have m3:=Q_add (Q_mul qv3 qd) (Q_mul x3 qtw)
  have zm3:=R m3 (by omega)
  have y3:=R (Q_mul qv3 qd) (by omega)
  have yy3:=R (Q_mul x3 qtw) (by omega)
  have yu3:=R (Q_mul qu3 qtd) (by omega)
  have zn3:=R (Q_add m3 (Q_mul qu3 qtd)) (by omega)
  have c_2:=c_FMul two w (by omega) (by omega)
  have c_3:=c_FAdd sq own (by omega) (by omega)
  have c_4:=c_FInv (sq+own) h0 (by omega)
  have c_5:=c_FMul two (dot3 u1 u2 u3 v1 v2 v3) (by omega) (by omega)
  have c_6:=c_Dot3 (k:=k) (by omega) u1 u2 u3 v1 v2 v3 qu1 qu2 qu3 qv1 qv2 qv3
  have c_7:=c_Cross u1 u2 u3 v1 v2 v3 (by omega)
  have c_8:=c_VScale v1 v2 v3 (sq - own) (by omega)
  have c_9:=c_VScale (u2*v3 - u3*v2) (u3*v1 - u1*v3) (u1*v2 - u2*v1) (two*w) (by omega)
  have c_a:=c_VScale u1 u2 u3 (two*dot3 u1 u2 u3 v1 v2 v3) (by omega)
  have c_b:=c_VAdd (v1*(sq - own)) (v2*(sq - own)) (v3*(sq - own)) ((u2*v3 - u3*v2)*(two*w)) ((u3*v1 - u1*v3)*(two*w)) ((u1*v2 - u2*v1)*(two*w)) (by omega)
  have c_c:=c_VAdd (v1*(sq - own)+(u2*v3 - u3*v2)*(two*w)) (v2*(sq - own)+(u3*v1 - u1*v3)*(two*w)) (v3*(sq - own)+(u1*v2 - u2*v1)*(two*w)) (u1*(two*dot3 u1 u2 u3 v1 v2 v3)) (u2*(two*dot3 u1 u2 u3 v1 v2 v3)) (u3*(two*dot3 u1 u2 u3 v1 v2 v3)) (by omega)
  have c_e:=c_VScale (v1*(sq - own)+(u2*v3 - u3*v2)*(two*w)+u1*(two*dot3 u1 u2 u3 v1 v2 v3)) (v2*(sq - own)+(u3*v1 - u1*v3)*(two*w)+u2*(two*dot3 u1 u2 u3 v1 v2 v3)) (v3*(sq - own)+(u1*v2 - u2*v1)*(two*w)+u3*(two*dot3 u1 u2 u3 v1 v2 v3)) (sq+own)⁻¹ (by omega)
  clear R
  refine zen Tryz.func187 rfl Tryz.ntmps187 ?_
  intro w0 E0 hc
  repeat' (first|refine zR1 hc Tryz.results187 ?_|(with_reducible first|exact trivial|refine zan ?_ ?_|refine zim (fun h=>?_)|refine zoc c_1 ?_ ?_|refine zoc c_2 ?_ ?_|refine zoc c_3 ?_ ?_|refine zoc c_4 ?_ ?_|refine zoc c_5 ?_ ?_|refine zoc c_6 ?_ ?_|refine zoc c_7 ?_ ?_|refine zoc c_8 ?_ ?_|refine zoc c_9 ?_ ?_|refine zoc c_a ?_ ?_|refine zoc c_b ?_ ?_|refine zoc c_c ?_ ?_|refine zoc c_e ?_ ?_|fail)|(omega;done))
theorem quat_ne {w u1 u2 u3:Rat} (h:¬(w=0∧u1=0∧u2=0∧u3=0)):w*w+dot3 u1 u2 u3 u1 u2 u3≠0:=by
  intro e
  have h0:=sq_nn w
  have h1:=sq_nn u1
  have h2:=sq_nn u2
  have h3:=sq_nn u3
  unfold dot3 at e
  have e0:w*w=0:=by grind
  have e1:u1*u1=0:=by grind
  have e2:u2*u2=0:=by grind
  have e3:u3*u3=0:=by grind
  apply h
  refine ⟨?_,?_,?_,?_⟩<;> grind
theorem s_Turn (w u1 u2 u3:Rat) (hw:bigQ w=false) (hu:okV u1 u2 u3) (hq:¬(w=0∧u1=0∧u2=0∧u3=0)) (hh:gvF (((0:Int):Rat)) (((0:Int):Rat)) (((0:Int):Rat)) ((((1:Int):Rat)*((w*w) - (dot3 u1 u2 u3 u1 u2 u3))+(u2*((0:Int):Rat) - u3*((0:Int):Rat))*(((2:Int):Rat)*w)+u1*(((2:Int):Rat)*dot3 u1 u2 u3 ((1:Int):Rat) ((0:Int):Rat) ((0:Int):Rat)))*((w*w)+(dot3 u1 u2 u3 u1 u2 u3))⁻¹) ((((0:Int):Rat)*((w*w) - (dot3 u1 u2 u3 u1 u2 u3))+(u3*((1:Int):Rat) - u1*((0:Int):Rat))*(((2:Int):Rat)*w)+u2*(((2:Int):Rat)*dot3 u1 u2 u3 ((1:Int):Rat) ((0:Int):Rat) ((0:Int):Rat)))*((w*w)+(dot3 u1 u2 u3 u1 u2 u3))⁻¹) ((((0:Int):Rat)*((w*w) - (dot3 u1 u2 u3 u1 u2 u3))+(u1*((0:Int):Rat) - u2*((1:Int):Rat))*(((2:Int):Rat)*w)+u3*(((2:Int):Rat)*dot3 u1 u2 u3 ((1:Int):Rat) ((0:Int):Rat) ((0:Int):Rat)))*((w*w)+(dot3 u1 u2 u3 u1 u2 u3))⁻¹) ((((0:Int):Rat)*((w*w) - (dot3 u1 u2 u3 u1 u2 u3))+(u2*((0:Int):Rat) - u3*((1:Int):Rat))*(((2:Int):Rat)*w)+u1*(((2:Int):Rat)*dot3 u1 u2 u3 ((0:Int):Rat) ((1:Int):Rat) ((0:Int):Rat)))*((w*w)+(dot3 u1 u2 u3 u1 u2 u3))⁻¹) ((((1:Int):Rat)*((w*w) - (dot3 u1 u2 u3 u1 u2 u3))+(u3*((0:Int):Rat) - u1*((0:Int):Rat))*(((2:Int):Rat)*w)+u2*(((2:Int):Rat)*dot3 u1 u2 u3 ((0:Int):Rat) ((1:Int):Rat) ((0:Int):Rat)))*((w*w)+(dot3 u1 u2 u3 u1 u2 u3))⁻¹) ((((0:Int):Rat)*((w*w) - (dot3 u1 u2 u3 u1 u2 u3))+(u1*((1:Int):Rat) - u2*((0:Int):Rat))*(((2:Int):Rat)*w)+u3*(((2:Int):Rat)*dot3 u1 u2 u3 ((0:Int):Rat) ((1:Int):Rat) ((0:Int):Rat)))*((w*w)+(dot3 u1 u2 u3 u1 u2 u3))⁻¹) ((((0:Int):Rat)*((w*w) - (dot3 u1 u2 u3 u1 u2 u3))+(u2*((1:Int):Rat) - u3*((0:Int):Rat))*(((2:Int):Rat)*w)+u1*(((2:Int):Rat)*dot3 u1 u2 u3 ((0:Int):Rat) ((0:Int):Rat) ((1:Int):Rat)))*((w*w)+(dot3 u1 u2 u3 u1 u2 u3))⁻¹) ((((0:Int):Rat)*((w*w) - (dot3 u1 u2 u3 u1 u2 u3))+(u3*((0:Int):Rat) - u1*((1:Int):Rat))*(((2:Int):Rat)*w)+u2*(((2:Int):Rat)*dot3 u1 u2 u3 ((0:Int):Rat) ((0:Int):Rat) ((1:Int):Rat)))*((w*w)+(dot3 u1 u2 u3 u1 u2 u3))⁻¹) ((((1:Int):Rat)*((w*w) - (dot3 u1 u2 u3 u1 u2 u3))+(u1*((0:Int):Rat) - u2*((0:Int):Rat))*(((2:Int):Rat)*w)+u3*(((2:Int):Rat)*dot3 u1 u2 u3 ((0:Int):Rat) ((0:Int):Rat) ((1:Int):Rat)))*((w*w)+(dot3 u1 u2 u3 u1 u2 u3))⁻¹)=0):Ax.Pure Tryz.prog G 62 [.agg [.v (.string (bs (ratL w))),.v (.string (bs (ratL u1))),.v (.string (bs (ratL u2))),.v (.string (bs (ratL u3)))]] (.tup [tF (ratL (((0:Int):Rat))) (ratL (((0:Int):Rat))) (ratL (((0:Int):Rat))) (ratL ((((1:Int):Rat)*((w*w) - (dot3 u1 u2 u3 u1 u2 u3))+(u2*((0:Int):Rat) - u3*((0:Int):Rat))*(((2:Int):Rat)*w)+u1*(((2:Int):Rat)*dot3 u1 u2 u3 ((1:Int):Rat) ((0:Int):Rat) ((0:Int):Rat)))*((w*w)+(dot3 u1 u2 u3 u1 u2 u3))⁻¹)) (ratL ((((0:Int):Rat)*((w*w) - (dot3 u1 u2 u3 u1 u2 u3))+(u3*((1:Int):Rat) - u1*((0:Int):Rat))*(((2:Int):Rat)*w)+u2*(((2:Int):Rat)*dot3 u1 u2 u3 ((1:Int):Rat) ((0:Int):Rat) ((0:Int):Rat)))*((w*w)+(dot3 u1 u2 u3 u1 u2 u3))⁻¹)) (ratL ((((0:Int):Rat)*((w*w) - (dot3 u1 u2 u3 u1 u2 u3))+(u1*((0:Int):Rat) - u2*((1:Int):Rat))*(((2:Int):Rat)*w)+u3*(((2:Int):Rat)*dot3 u1 u2 u3 ((1:Int):Rat) ((0:Int):Rat) ((0:Int):Rat)))*((w*w)+(dot3 u1 u2 u3 u1 u2 u3))⁻¹)) (ratL ((((0:Int):Rat)*((w*w) - (dot3 u1 u2 u3 u1 u2 u3))+(u2*((0:Int):Rat) - u3*((1:Int):Rat))*(((2:Int):Rat)*w)+u1*(((2:Int):Rat)*dot3 u1 u2 u3 ((0:Int):Rat) ((1:Int):Rat) ((0:Int):Rat)))*((w*w)+(dot3 u1 u2 u3 u1 u2 u3))⁻¹)) (ratL ((((1:Int):Rat)*((w*w) - (dot3 u1 u2 u3 u1 u2 u3))+(u3*((0:Int):Rat) - u1*((0:Int):Rat))*(((2:Int):Rat)*w)+u2*(((2:Int):Rat)*dot3 u1 u2 u3 ((0:Int):Rat) ((1:Int):Rat) ((0:Int):Rat)))*((w*w)+(dot3 u1 u2 u3 u1 u2 u3))⁻¹)) (ratL ((((0:Int):Rat)*((w*w) - (dot3 u1 u2 u3 u1 u2 u3))+(u1*((1:Int):Rat) - u2*((0:Int):Rat))*(((2:Int):Rat)*w)+u3*(((2:Int):Rat)*dot3 u1 u2 u3 ((0:Int):Rat) ((1:Int):Rat) ((0:Int):Rat)))*((w*w)+(dot3 u1 u2 u3 u1 u2 u3))⁻¹)) (ratL ((((0:Int):Rat)*((w*w) - (dot3 u1 u2 u3 u1 u2 u3))+(u2*((1:Int):Rat) - u3*((0:Int):Rat))*(((2:Int):Rat)*w)+u1*(((2:Int):Rat)*dot3 u1 u2 u3 ((0:Int):Rat) ((0:Int):Rat) ((1:Int):Rat)))*((w*w)+(dot3 u1 u2 u3 u1 u2 u3))⁻¹)) (ratL ((((0:Int):Rat)*((w*w) - (dot3 u1 u2 u3 u1 u2 u3))+(u3*((0:Int):Rat) - u1*((1:Int):Rat))*(((2:Int):Rat)*w)+u2*(((2:Int):Rat)*dot3 u1 u2 u3 ((0:Int):Rat) ((0:Int):Rat) ((1:Int):Rat)))*((w*w)+(dot3 u1 u2 u3 u1 u2 u3))⁻¹)) (ratL ((((1:Int):Rat)*((w*w) - (dot3 u1 u2 u3 u1 u2 u3))+(u1*((0:Int):Rat) - u2*((0:Int):Rat))*(((2:Int):Rat)*w)+u3*(((2:Int):Rat)*dot3 u1 u2 u3 ((0:Int):Rat) ((0:Int):Rat) ((1:Int):Rat)))*((w*w)+(dot3 u1 u2 u3 u1 u2 u3))⁻¹)),N 0]):=by
  have c_c:=c_checkAll4 (ratL w) (ratL u1) (ratL u2) (ratL u3) (ok_len hw) (ok_len hu.1) (ok_len hu.2.1) (ok_len hu.2.2)
  rw [fst4 hw hu.1 hu.2.1 hu.2.2] at c_c
  have c_w:=s_From hw
  have c_u:=s_VFrom hu
  have c_z:=c_IsZero u1 u2 u3
  have c_s:=c_FSign w
  obtain ⟨qu1,qu2,qu3⟩:=okV_Q hu
  have qw:=bigQ_Q hw
  have c_sq:=c_FMul w w (rz_of qw rfl) (rz_of qw rfl)
  have c_ow:=c_Dot3 (k:=2400) (by decide) u1 u2 u3 u1 u2 u3 qu1 qu2 qu3 qu1 qu2 qu3
  have c_two:=c_F 2 (by decide) (by decide)
  have hn0:=quat_ne hq
  have qsq:=Q_mul qw qw
  have qow:=Q_dot qu1 qu2 qu3 qu1 qu2 qu3
  have q2:Q 64 ((2:Int):Rat):=Q_i64 (by decide) (by decide)
  have qi0:Q 1 (((0:Int):Rat)):=Q_zero
  have qi1:Q 1 (((1:Int):Rat)):=Q_one
  have c_v0:=c_VOf 0 0 0 (by decide)
  have c_v1:=c_VOf 1 0 0 (by decide)
  have c_v2:=c_VOf 0 1 0 (by decide)
  have c_v3:=c_VOf 0 0 1 (by decide)
  have c_t0:=c_turn1 (k:=15000) (by decide) ((1:Int):Rat) ((0:Int):Rat) ((0:Int):Rat) (w*w) (dot3 u1 u2 u3 u1 u2 u3) ((2:Int):Rat) w u1 u2 u3 hn0 ⟨Q_of qi1 rfl,Q_of qi0 rfl,Q_of qi0 rfl⟩ ⟨Q_of qu1 rfl,Q_of qu2 rfl,Q_of qu3 rfl⟩ (Q_of qsq rfl) (Q_of qow rfl) (Q_of q2 rfl) (Q_of qw rfl)
  have c_t1:=c_turn1 (k:=15000) (by decide) ((0:Int):Rat) ((1:Int):Rat) ((0:Int):Rat) (w*w) (dot3 u1 u2 u3 u1 u2 u3) ((2:Int):Rat) w u1 u2 u3 hn0 ⟨Q_of qi0 rfl,Q_of qi1 rfl,Q_of qi0 rfl⟩ ⟨Q_of qu1 rfl,Q_of qu2 rfl,Q_of qu3 rfl⟩ (Q_of qsq rfl) (Q_of qow rfl) (Q_of q2 rfl) (Q_of qw rfl)
  have c_t2:=c_turn1 (k:=15000) (by decide) ((0:Int):Rat) ((0:Int):Rat) ((1:Int):Rat) (w*w) (dot3 u1 u2 u3 u1 u2 u3) ((2:Int):Rat) w u1 u2 u3 hn0 ⟨Q_of qi0 rfl,Q_of qi0 rfl,Q_of qi1 rfl⟩ ⟨Q_of qu1 rfl,Q_of qu2 rfl,Q_of qu3 rfl⟩ (Q_of qsq rfl) (Q_of qow rfl) (Q_of q2 rfl) (Q_of qw rfl)
  have hz:decide (u1=0∧u2=0∧u3=0)=true→w.num.sign≠0:=fun h hs=>hq ⟨qsign_zero.1 hs,of_decide_eq_true h⟩
  generalize decide (u1=0∧u2=0∧u3=0)=b at *
  generalize w.num.sign=sg at *
  have hb:b=false∨(b=true∧sg≠0):=by
    cases b
    · exact .inl rfl
    · exact .inr ⟨rfl,hz rfl⟩
  clear hz
  have c_g:=c_giveF (k:=1000000) (by decide) (((0:Int):Rat)) (((0:Int):Rat)) (((0:Int):Rat)) ((((1:Int):Rat)*((w*w) - (dot3 u1 u2 u3 u1 u2 u3))+(u2*((0:Int):Rat) - u3*((0:Int):Rat))*(((2:Int):Rat)*w)+u1*(((2:Int):Rat)*dot3 u1 u2 u3 ((1:Int):Rat) ((0:Int):Rat) ((0:Int):Rat)))*((w*w)+(dot3 u1 u2 u3 u1 u2 u3))⁻¹) ((((0:Int):Rat)*((w*w) - (dot3 u1 u2 u3 u1 u2 u3))+(u3*((1:Int):Rat) - u1*((0:Int):Rat))*(((2:Int):Rat)*w)+u2*(((2:Int):Rat)*dot3 u1 u2 u3 ((1:Int):Rat) ((0:Int):Rat) ((0:Int):Rat)))*((w*w)+(dot3 u1 u2 u3 u1 u2 u3))⁻¹) ((((0:Int):Rat)*((w*w) - (dot3 u1 u2 u3 u1 u2 u3))+(u1*((0:Int):Rat) - u2*((1:Int):Rat))*(((2:Int):Rat)*w)+u3*(((2:Int):Rat)*dot3 u1 u2 u3 ((1:Int):Rat) ((0:Int):Rat) ((0:Int):Rat)))*((w*w)+(dot3 u1 u2 u3 u1 u2 u3))⁻¹) ((((0:Int):Rat)*((w*w) - (dot3 u1 u2 u3 u1 u2 u3))+(u2*((0:Int):Rat) - u3*((1:Int):Rat))*(((2:Int):Rat)*w)+u1*(((2:Int):Rat)*dot3 u1 u2 u3 ((0:Int):Rat) ((1:Int):Rat) ((0:Int):Rat)))*((w*w)+(dot3 u1 u2 u3 u1 u2 u3))⁻¹) ((((1:Int):Rat)*((w*w) - (dot3 u1 u2 u3 u1 u2 u3))+(u3*((0:Int):Rat) - u1*((0:Int):Rat))*(((2:Int):Rat)*w)+u2*(((2:Int):Rat)*dot3 u1 u2 u3 ((0:Int):Rat) ((1:Int):Rat) ((0:Int):Rat)))*((w*w)+(dot3 u1 u2 u3 u1 u2 u3))⁻¹) ((((0:Int):Rat)*((w*w) - (dot3 u1 u2 u3 u1 u2 u3))+(u1*((1:Int):Rat) - u2*((0:Int):Rat))*(((2:Int):Rat)*w)+u3*(((2:Int):Rat)*dot3 u1 u2 u3 ((0:Int):Rat) ((1:Int):Rat) ((0:Int):Rat)))*((w*w)+(dot3 u1 u2 u3 u1 u2 u3))⁻¹) ((((0:Int):Rat)*((w*w) - (dot3 u1 u2 u3 u1 u2 u3))+(u2*((1:Int):Rat) - u3*((0:Int):Rat))*(((2:Int):Rat)*w)+u1*(((2:Int):Rat)*dot3 u1 u2 u3 ((0:Int):Rat) ((0:Int):Rat) ((1:Int):Rat)))*((w*w)+(dot3 u1 u2 u3 u1 u2 u3))⁻¹) ((((0:Int):Rat)*((w*w) - (dot3 u1 u2 u3 u1 u2 u3))+(u3*((0:Int):Rat) - u1*((1:Int):Rat))*(((2:Int):Rat)*w)+u2*(((2:Int):Rat)*dot3 u1 u2 u3 ((0:Int):Rat) ((0:Int):Rat) ((1:Int):Rat)))*((w*w)+(dot3 u1 u2 u3 u1 u2 u3))⁻¹) ((((1:Int):Rat)*((w*w) - (dot3 u1 u2 u3 u1 u2 u3))+(u1*((0:Int):Rat) - u2*((0:Int):Rat))*(((2:Int):Rat)*w)+u3*(((2:Int):Rat)*dot3 u1 u2 u3 ((0:Int):Rat) ((0:Int):Rat) ((1:Int):Rat)))*((w*w)+(dot3 u1 u2 u3 u1 u2 u3))⁻¹) ⟨Q_of qi0 rfl,Q_of qi0 rfl,Q_of qi0 rfl⟩ ⟨Q_of (Q_mul (Q_add (Q_add (Q_mul qi1 (Q_sub qsq qow)) (Q_mul (Q_sub (Q_mul qu2 qi0) (Q_mul qu3 qi0)) (Q_mul q2 qw))) (Q_mul qu1 (Q_mul q2 (Q_add (Q_add (Q_mul qu1 qi1) (Q_mul qu2 qi0)) (Q_mul qu3 qi0))))) (Q_inv (Q_add qsq qow))) rfl,Q_of (Q_mul (Q_add (Q_add (Q_mul qi0 (Q_sub qsq qow)) (Q_mul (Q_sub (Q_mul qu3 qi1) (Q_mul qu1 qi0)) (Q_mul q2 qw))) (Q_mul qu2 (Q_mul q2 (Q_add (Q_add (Q_mul qu1 qi1) (Q_mul qu2 qi0)) (Q_mul qu3 qi0))))) (Q_inv (Q_add qsq qow))) rfl,Q_of (Q_mul (Q_add (Q_add (Q_mul qi0 (Q_sub qsq qow)) (Q_mul (Q_sub (Q_mul qu1 qi0) (Q_mul qu2 qi1)) (Q_mul q2 qw))) (Q_mul qu3 (Q_mul q2 (Q_add (Q_add (Q_mul qu1 qi1) (Q_mul qu2 qi0)) (Q_mul qu3 qi0))))) (Q_inv (Q_add qsq qow))) rfl⟩ ⟨Q_of (Q_mul (Q_add (Q_add (Q_mul qi0 (Q_sub qsq qow)) (Q_mul (Q_sub (Q_mul qu2 qi0) (Q_mul qu3 qi1)) (Q_mul q2 qw))) (Q_mul qu1 (Q_mul q2 (Q_add (Q_add (Q_mul qu1 qi0) (Q_mul qu2 qi1)) (Q_mul qu3 qi0))))) (Q_inv (Q_add qsq qow))) rfl,Q_of (Q_mul (Q_add (Q_add (Q_mul qi1 (Q_sub qsq qow)) (Q_mul (Q_sub (Q_mul qu3 qi0) (Q_mul qu1 qi0)) (Q_mul q2 qw))) (Q_mul qu2 (Q_mul q2 (Q_add (Q_add (Q_mul qu1 qi0) (Q_mul qu2 qi1)) (Q_mul qu3 qi0))))) (Q_inv (Q_add qsq qow))) rfl,Q_of (Q_mul (Q_add (Q_add (Q_mul qi0 (Q_sub qsq qow)) (Q_mul (Q_sub (Q_mul qu1 qi1) (Q_mul qu2 qi0)) (Q_mul q2 qw))) (Q_mul qu3 (Q_mul q2 (Q_add (Q_add (Q_mul qu1 qi0) (Q_mul qu2 qi1)) (Q_mul qu3 qi0))))) (Q_inv (Q_add qsq qow))) rfl⟩ ⟨Q_of (Q_mul (Q_add (Q_add (Q_mul qi0 (Q_sub qsq qow)) (Q_mul (Q_sub (Q_mul qu2 qi1) (Q_mul qu3 qi0)) (Q_mul q2 qw))) (Q_mul qu1 (Q_mul q2 (Q_add (Q_add (Q_mul qu1 qi0) (Q_mul qu2 qi0)) (Q_mul qu3 qi1))))) (Q_inv (Q_add qsq qow))) rfl,Q_of (Q_mul (Q_add (Q_add (Q_mul qi0 (Q_sub qsq qow)) (Q_mul (Q_sub (Q_mul qu3 qi0) (Q_mul qu1 qi1)) (Q_mul q2 qw))) (Q_mul qu2 (Q_mul q2 (Q_add (Q_add (Q_mul qu1 qi0) (Q_mul qu2 qi0)) (Q_mul qu3 qi1))))) (Q_inv (Q_add qsq qow))) rfl,Q_of (Q_mul (Q_add (Q_add (Q_mul qi1 (Q_sub qsq qow)) (Q_mul (Q_sub (Q_mul qu1 qi0) (Q_mul qu2 qi0)) (Q_mul q2 qw))) (Q_mul qu3 (Q_mul q2 (Q_add (Q_add (Q_mul qu1 qi0) (Q_mul qu2 qi0)) (Q_mul qu3 qi1))))) (Q_inv (Q_add qsq qow))) rfl⟩ hh
  refine zen Tryz.func62 rfl Tryz.ntmps62 ?_
  intro w0 E0 hc
  repeat' (first|(with_reducible first|refine Wp_seq ?_|refine zwk ?_|refine Wp_block ?_|refine zgo ?_|refine zbn ?_|refine zge Tryz.results62 ?_|refine Sub.refl _|refine allP_nil|refine zoa1 (out':=?_) ?_|refine zca1 (y:=?_) ?_|refine zea1 (eo':=?_) ?_)|(with_reducible refine zrs [1] hc ?_ ?_;focus (with_unfolding_all rfl))|(with_reducible refine zrm [1] hc mixed ?_ ?_;focus (with_unfolding_all rfl))|(with_reducible refine allP_cons ?_ ?_;focus (first|decide|omega))|(with_reducible first|refine zg2 ?_ ?_|refine zbo ?_|refine zg3 ?_ (fun h=>?_) (fun h=>?_)|refine zg4 (fun h=>?_) (fun h=>?_)|fail)|(omega;done))
  refine Wp_frzP hc 0 (sz:=4) (ro:=false) (g:=fun _=> [.v (.string (bs (ratL w))),.v (.string (bs (ratL u1))),.v (.string (bs (ratL u2))),.v (.string (bs (ratL u3)))]) (Is.refl _) ⟨trivial,trivial,trivial,trivial,trivial⟩ rfl ?_
  refine Wp_weaker (st':=stOf [(1,.one (.pp [.v (.string (bs (ratL w))),.v (.string (bs (ratL u1))),.v (.string (bs (ratL u2))),.v (.string (bs (ratL u3)))])),(2,.one (.ptr 1 12 0 0)),(3,N 0)] [(1,⟨12,1,fun _=> [.v (.string ⟨#[]⟩),.v (.string ⟨#[]⟩),.v (.string ⟨#[]⟩),.v (.string ⟨#[]⟩),.v (.string ⟨#[]⟩),.v (.string ⟨#[]⟩),.v (.string ⟨#[]⟩),.v (.string ⟨#[]⟩),.v (.string ⟨#[]⟩),.v (.string ⟨#[]⟩),.v (.string ⟨#[]⟩),.v (.string ⟨#[]⟩)],false⟩)] 2) ?_ ?_
  · refine zW1 ?_ <;> repeat' (with_reducible first|exact trivial|refine zan ?_ ?_|refine zal (fun i hi=>?_))
  rcases hb with rfl|⟨rfl,hb⟩
  all_goals
    repeat' (first|(with_reducible first|refine Wp_seq ?_|refine zwk ?_|refine Wp_block ?_|refine zgo ?_|refine zbn ?_|refine zge Tryz.results62 ?_|refine Sub.refl _|refine allP_nil|refine zoa1 (out':=?_) ?_|refine zca1 (y:=?_) ?_|refine zea1 (eo':=?_) ?_)|(with_reducible refine zrs [9] hc ?_ ?_;focus (with_unfolding_all rfl))|(with_reducible refine zrm [9] hc mixed ?_ ?_;focus (with_unfolding_all rfl))|(with_reducible refine allP_cons ?_ ?_;focus (first|decide|omega))|(with_reducible first|refine zg2 ?_ ?_|refine zoc c_c ?_ ?_|refine zoc c_w ?_ ?_|refine zoc c_u ?_ ?_|refine zoc c_s ?_ ?_|refine zoc c_z ?_ ?_|refine zoc c_sq ?_ ?_|refine zoc c_ow ?_ ?_|refine zoc c_two ?_ ?_|refine zbo ?_|refine zg3 ?_ (fun h=>?_) (fun h=>?_)|refine zg4 (fun h=>?_) (fun h=>?_)|fail)|((first|omega|exact absurd rfl (by assumption));done))
  all_goals
    refine Wp_weaker (st':=stOf [(2,.one (.ptr 1 12 0 0)),(3,N 0),(5,.one (.ptr 2 4 0 0)),(6,.one (.ptr 3 12 0 0)),(7,.one (.ptr 4 4 0 0)),(8,.one (.ptr 5 4 0 0)),(9,.one (.ptr 6 4 0 0))] [(1,⟨12,1,fun _=> [.v (.string ⟨#[]⟩),.v (.string ⟨#[]⟩),.v (.string ⟨#[]⟩),.v (.string ⟨#[]⟩),.v (.string ⟨#[]⟩),.v (.string ⟨#[]⟩),.v (.string ⟨#[]⟩),.v (.string ⟨#[]⟩),.v (.string ⟨#[]⟩),.v (.string ⟨#[]⟩),.v (.string ⟨#[]⟩),.v (.string ⟨#[]⟩)],false⟩),(2,⟨4,1,fun _=> [.frac w],false⟩),(3,⟨12,1,fun _=> [.frac u1,.frac u2,.frac u3],false⟩),(4,⟨4,1,fun _=> [.frac (w*w)],false⟩),(5,⟨4,1,fun _=> [.frac (dot3 u1 u2 u3 u1 u2 u3)],false⟩),(6,⟨4,1,fun _=> [.frac ((2:Int):Rat)],false⟩)] 7) ?_ ?_
    · refine zW1 ?_ <;> repeat' (with_reducible first|exact trivial|refine zan ?_ ?_|refine zal (fun i hi=>?_))
    refine Wp_frzP hc 2 (sz:=4) (ro:=false) (g:=fun _=> [.frac w]) (Is.refl _) ⟨trivial,trivial⟩ rfl ?_
    refine Wp_frzP hc 3 (sz:=12) (ro:=false) (g:=fun _=> [.frac u1,.frac u2,.frac u3]) (Is.refl _) ⟨trivial,trivial,trivial,trivial⟩ rfl ?_
    refine Wp_frzP hc 4 (sz:=4) (ro:=false) (g:=fun _=> [.frac (w*w)]) (Is.refl _) ⟨trivial,trivial⟩ rfl ?_
    refine Wp_frzP hc 5 (sz:=4) (ro:=false) (g:=fun _=> [.frac (dot3 u1 u2 u3 u1 u2 u3)]) (Is.refl _) ⟨trivial,trivial⟩ rfl ?_
    refine Wp_frzP hc 6 (sz:=4) (ro:=false) (g:=fun _=> [.frac ((2:Int):Rat)]) (Is.refl _) ⟨trivial,trivial⟩ rfl ?_
    refine Wp_weaker (st':=stOf [(2,.one (.ptr 1 12 0 0)),(3,N 0),(5,.one (.pp [.frac w])),(6,.one (.pp [.frac u1,.frac u2,.frac u3])),(7,.one (.pp [.frac (w*w)])),(8,.one (.pp [.frac (dot3 u1 u2 u3 u1 u2 u3)])),(9,.one (.pp [.frac ((2:Int):Rat)]))] [(1,⟨12,1,fun _=> [.v (.string ⟨#[]⟩),.v (.string ⟨#[]⟩),.v (.string ⟨#[]⟩),.v (.string ⟨#[]⟩),.v (.string ⟨#[]⟩),.v (.string ⟨#[]⟩),.v (.string ⟨#[]⟩),.v (.string ⟨#[]⟩),.v (.string ⟨#[]⟩),.v (.string ⟨#[]⟩),.v (.string ⟨#[]⟩),.v (.string ⟨#[]⟩)],false⟩)] 7) ?_ ?_
    · refine zW1 ?_ <;> repeat' (with_reducible first|exact trivial|refine zan ?_ ?_|refine zal (fun i hi=>?_))
    repeat' (first|refine zR1 hc Tryz.results62 ?_|(with_reducible first|exact trivial|refine zan ?_ ?_|refine zim (fun h=>?_)|refine zoc c_v0 ?_ ?_|refine zoc c_v1 ?_ ?_|refine zoc c_v2 ?_ ?_|refine zoc c_v3 ?_ ?_|refine zoc c_t0 ?_ ?_|refine zoc c_t1 ?_ ?_|refine zoc c_t2 ?_ ?_|refine zoc c_g ?_ ?_|fail)|(omega;done))
end Go.Proofs
end
