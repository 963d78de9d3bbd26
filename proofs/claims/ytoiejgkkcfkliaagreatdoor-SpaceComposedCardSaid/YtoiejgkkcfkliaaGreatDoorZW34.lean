/- Lemmas on the program and its library: part ZW34. -/
import Derived.Test.YtoiejgkkcfkliaaGreatDoorZW32
set_option linter.unusedVariables false
set_option linter.unusedSimpArgs false
section
set_option maxHeartbeats 4000000
set_option maxRecDepth 100000
namespace Go.Proofs
open Go.Ax
theorem b17 {k:Nat} (hk:k≤20000) (v1 v2 v3 sq own two w u1 u2 u3:Rat) (h0:sq+own≠0) (qv:Q k v1∧Q k v2∧Q k v3) (qu:Q k u1∧Q k u2∧Q k u3) (qs:Q k sq) (qo:Q k own) (qt:Q k two) (qw:Q k w):Ax.Pure Tryz.prog G 187 [vA v1 v2 v3,.one (.pp [.frac sq]),.one (.pp [.frac own]),.one (.pp [.frac u1,.frac u2,.frac u3]),.one (.pp [.frac two]),.one (.pp [.frac w])] (vA ((v1*(sq - own)+(u2*v3 - u3*v2)*(two*w)+u1*(two*c7 u1 u2 u3 v1 v2 v3))*(sq+own)⁻¹) ((v2*(sq - own)+(u3*v1 - u1*v3)*(two*w)+u2*(two*c7 u1 u2 u3 v1 v2 v3))*(sq+own)⁻¹) ((v3*(sq - own)+(u1*v2 - u2*v1)*(two*w)+u3*(two*c7 u1 u2 u3 v1 v2 v3))*(sq+own)⁻¹)):=by
  obtain ⟨qv1,qv2,qv3⟩:=qv
  obtain ⟨qu1,qu2,qu3⟩:=qu
  have R:∀{k':Nat} {q:Rat},Q k' q→k'≤1000000→rz q≤1000000:=fun h hh=>Nat.le_trans (b8c h) hh
  have qd:=j9 qs qo
  have c_1:=b9f sq own (Nat.le_trans (R qs (by omega)) (by decide)) (Nat.le_trans (R qo (by omega)) (by decide))
  have qtw:=c6 qt qw
  have qdt:=a0e qu1 qu2 qu3 qv1 qv2 qv3
  have qtd:=c6 qt qdt
  have qi:=a25 (f0 qs qo)
  have z1:=R qv1 (by omega)
  have z2:=R qv2 (by omega)
  have z3:=R qv3 (by omega)
  have z4:=R qu1 (by omega)
  have z5:=R qu2 (by omega)
  have z6:=R qu3 (by omega)
  have z7:=R qs (by omega)
  have z8:=R qo (by omega)
  have z9:=R qt (by omega)
  have za:=R qw (by omega)
  have zb:=R qd (by omega)
  have zc:=R qtw (by omega)
  have zd:=R qdt (by omega)
  have ze:=R qtd (by omega)
  have zf:=R qi (by omega)
  have zg:=R (f0 qs qo) (by omega)
  have x1:=j9 (c6 qu2 qv3) (c6 qu3 qv2)
  have zx1:=R x1 (by omega)
  have x2:=j9 (c6 qu3 qv1) (c6 qu1 qv3)
  have zx2:=R x2 (by omega)
  have x3:=j9 (c6 qu1 qv2) (c6 qu2 qv1)
  have zx3:=R x3 (by omega)
  have m1:=f0 (c6 qv1 qd) (c6 x1 qtw)
  have zm1:=R m1 (by omega)
  have y1:=R (c6 qv1 qd) (by omega)
  have yy1:=R (c6 x1 qtw) (by omega)
  have yu1:=R (c6 qu1 qtd) (by omega)
  have zn1:=R (f0 m1 (c6 qu1 qtd)) (by omega)
  have m2:=f0 (c6 qv2 qd) (c6 x2 qtw)
  have zm2:=R m2 (by omega)
  have y2:=R (c6 qv2 qd) (by omega)
  have yy2:=R (c6 x2 qtw) (by omega)
  have yu2:=R (c6 qu2 qtd) (by omega)
  have zn2:=R (f0 m2 (c6 qu2 qtd)) (by omega)
  have m3:=f0 (c6 qv3 qd) (c6 x3 qtw)
  have zm3:=R m3 (by omega)
  have y3:=R (c6 qv3 qd) (by omega)
  have yy3:=R (c6 x3 qtw) (by omega)
  have yu3:=R (c6 qu3 qtd) (by omega)
  have zn3:=R (f0 m3 (c6 qu3 qtd)) (by omega)
  have c_2:=a6z two w (by omega) (by omega)
  have c_3:=b6i sq own (by omega) (by omega)
  have c_4:=d49 (sq+own) h0 (by omega)
  have c_5:=a6z two (c7 u1 u2 u3 v1 v2 v3) (by omega) (by omega)
  have c_6:=a77 (k:=k) (by omega) u1 u2 u3 v1 v2 v3 qu1 qu2 qu3 qv1 qv2 qv3
  have c_7:=c2y u1 u2 u3 v1 v2 v3 (by omega)
  have c_8:=a3x v1 v2 v3 (sq - own) (by omega)
  have c_9:=a3x (u2*v3 - u3*v2) (u3*v1 - u1*v3) (u1*v2 - u2*v1) (two*w) (by omega)
  have c_a:=a3x u1 u2 u3 (two*c7 u1 u2 u3 v1 v2 v3) (by omega)
  have c_b:=b3o (v1*(sq - own)) (v2*(sq - own)) (v3*(sq - own)) ((u2*v3 - u3*v2)*(two*w)) ((u3*v1 - u1*v3)*(two*w)) ((u1*v2 - u2*v1)*(two*w)) (by omega)
  have c_c:=b3o (v1*(sq - own)+(u2*v3 - u3*v2)*(two*w)) (v2*(sq - own)+(u3*v1 - u1*v3)*(two*w)) (v3*(sq - own)+(u1*v2 - u2*v1)*(two*w)) (u1*(two*c7 u1 u2 u3 v1 v2 v3)) (u2*(two*c7 u1 u2 u3 v1 v2 v3)) (u3*(two*c7 u1 u2 u3 v1 v2 v3)) (by omega)
  have c_e:=a3x (v1*(sq - own)+(u2*v3 - u3*v2)*(two*w)+u1*(two*c7 u1 u2 u3 v1 v2 v3)) (v2*(sq - own)+(u3*v1 - u1*v3)*(two*w)+u2*(two*c7 u1 u2 u3 v1 v2 v3)) (v3*(sq - own)+(u1*v2 - u2*v1)*(two*w)+u3*(two*c7 u1 u2 u3 v1 v2 v3)) (sq+own)⁻¹ (by omega)
  clear R
  refine r8 Tryz.func187 rfl Tryz.ntmps187 ?_
  intro w0 E0 hc
  repeat' (first|refine n7 hc Tryz.results187 ?_|(with_reducible first|exact trivial|refine j3 ?_ ?_|refine m8 (fun h=>?_)|refine c9 c_1 ?_ ?_|refine c9 c_2 ?_ ?_|refine c9 c_3 ?_ ?_|refine c9 c_4 ?_ ?_|refine c9 c_5 ?_ ?_|refine c9 c_6 ?_ ?_|refine c9 c_7 ?_ ?_|refine c9 c_8 ?_ ?_|refine c9 c_9 ?_ ?_|refine c9 c_a ?_ ?_|refine c9 c_b ?_ ?_|refine c9 c_c ?_ ?_|refine c9 c_e ?_ ?_|fail)|(omega;done))
theorem d03 {w u1 u2 u3:Rat} (h:¬(w=0∧u1=0∧u2=0∧u3=0)):w*w+c7 u1 u2 u3 u1 u2 u3≠0:=by
  intro e
  have h0:=a7x w
  have h1:=a7x u1
  have h2:=a7x u2
  have h3:=a7x u3
  unfold c7 at e
  have e0:w*w=0:=by grind
  have e1:u1*u1=0:=by grind
  have e2:u2*u2=0:=by grind
  have e3:u3*u3=0:=by grind
  apply h
  refine ⟨?_,?_,?_,?_⟩<;> grind
theorem d61 (w u1 u2 u3:Rat) (hw:y4 w=false) (hu:okV u1 u2 u3) (hq:¬(w=0∧u1=0∧u2=0∧u3=0)) (hh:gvF (((0:Int):Rat)) (((0:Int):Rat)) (((0:Int):Rat)) ((((1:Int):Rat)*((w*w) - (c7 u1 u2 u3 u1 u2 u3))+(u2*((0:Int):Rat) - u3*((0:Int):Rat))*(((2:Int):Rat)*w)+u1*(((2:Int):Rat)*c7 u1 u2 u3 ((1:Int):Rat) ((0:Int):Rat) ((0:Int):Rat)))*((w*w)+(c7 u1 u2 u3 u1 u2 u3))⁻¹) ((((0:Int):Rat)*((w*w) - (c7 u1 u2 u3 u1 u2 u3))+(u3*((1:Int):Rat) - u1*((0:Int):Rat))*(((2:Int):Rat)*w)+u2*(((2:Int):Rat)*c7 u1 u2 u3 ((1:Int):Rat) ((0:Int):Rat) ((0:Int):Rat)))*((w*w)+(c7 u1 u2 u3 u1 u2 u3))⁻¹) ((((0:Int):Rat)*((w*w) - (c7 u1 u2 u3 u1 u2 u3))+(u1*((0:Int):Rat) - u2*((1:Int):Rat))*(((2:Int):Rat)*w)+u3*(((2:Int):Rat)*c7 u1 u2 u3 ((1:Int):Rat) ((0:Int):Rat) ((0:Int):Rat)))*((w*w)+(c7 u1 u2 u3 u1 u2 u3))⁻¹) ((((0:Int):Rat)*((w*w) - (c7 u1 u2 u3 u1 u2 u3))+(u2*((0:Int):Rat) - u3*((1:Int):Rat))*(((2:Int):Rat)*w)+u1*(((2:Int):Rat)*c7 u1 u2 u3 ((0:Int):Rat) ((1:Int):Rat) ((0:Int):Rat)))*((w*w)+(c7 u1 u2 u3 u1 u2 u3))⁻¹) ((((1:Int):Rat)*((w*w) - (c7 u1 u2 u3 u1 u2 u3))+(u3*((0:Int):Rat) - u1*((0:Int):Rat))*(((2:Int):Rat)*w)+u2*(((2:Int):Rat)*c7 u1 u2 u3 ((0:Int):Rat) ((1:Int):Rat) ((0:Int):Rat)))*((w*w)+(c7 u1 u2 u3 u1 u2 u3))⁻¹) ((((0:Int):Rat)*((w*w) - (c7 u1 u2 u3 u1 u2 u3))+(u1*((1:Int):Rat) - u2*((0:Int):Rat))*(((2:Int):Rat)*w)+u3*(((2:Int):Rat)*c7 u1 u2 u3 ((0:Int):Rat) ((1:Int):Rat) ((0:Int):Rat)))*((w*w)+(c7 u1 u2 u3 u1 u2 u3))⁻¹) ((((0:Int):Rat)*((w*w) - (c7 u1 u2 u3 u1 u2 u3))+(u2*((1:Int):Rat) - u3*((0:Int):Rat))*(((2:Int):Rat)*w)+u1*(((2:Int):Rat)*c7 u1 u2 u3 ((0:Int):Rat) ((0:Int):Rat) ((1:Int):Rat)))*((w*w)+(c7 u1 u2 u3 u1 u2 u3))⁻¹) ((((0:Int):Rat)*((w*w) - (c7 u1 u2 u3 u1 u2 u3))+(u3*((0:Int):Rat) - u1*((1:Int):Rat))*(((2:Int):Rat)*w)+u2*(((2:Int):Rat)*c7 u1 u2 u3 ((0:Int):Rat) ((0:Int):Rat) ((1:Int):Rat)))*((w*w)+(c7 u1 u2 u3 u1 u2 u3))⁻¹) ((((1:Int):Rat)*((w*w) - (c7 u1 u2 u3 u1 u2 u3))+(u1*((0:Int):Rat) - u2*((0:Int):Rat))*(((2:Int):Rat)*w)+u3*(((2:Int):Rat)*c7 u1 u2 u3 ((0:Int):Rat) ((0:Int):Rat) ((1:Int):Rat)))*((w*w)+(c7 u1 u2 u3 u1 u2 u3))⁻¹)=0):Ax.Pure Tryz.prog G 62 [.agg [.v (.string (bs (c5 w))),.v (.string (bs (c5 u1))),.v (.string (bs (c5 u2))),.v (.string (bs (c5 u3)))]] (.tup [tF (c5 (((0:Int):Rat))) (c5 (((0:Int):Rat))) (c5 (((0:Int):Rat))) (c5 ((((1:Int):Rat)*((w*w) - (c7 u1 u2 u3 u1 u2 u3))+(u2*((0:Int):Rat) - u3*((0:Int):Rat))*(((2:Int):Rat)*w)+u1*(((2:Int):Rat)*c7 u1 u2 u3 ((1:Int):Rat) ((0:Int):Rat) ((0:Int):Rat)))*((w*w)+(c7 u1 u2 u3 u1 u2 u3))⁻¹)) (c5 ((((0:Int):Rat)*((w*w) - (c7 u1 u2 u3 u1 u2 u3))+(u3*((1:Int):Rat) - u1*((0:Int):Rat))*(((2:Int):Rat)*w)+u2*(((2:Int):Rat)*c7 u1 u2 u3 ((1:Int):Rat) ((0:Int):Rat) ((0:Int):Rat)))*((w*w)+(c7 u1 u2 u3 u1 u2 u3))⁻¹)) (c5 ((((0:Int):Rat)*((w*w) - (c7 u1 u2 u3 u1 u2 u3))+(u1*((0:Int):Rat) - u2*((1:Int):Rat))*(((2:Int):Rat)*w)+u3*(((2:Int):Rat)*c7 u1 u2 u3 ((1:Int):Rat) ((0:Int):Rat) ((0:Int):Rat)))*((w*w)+(c7 u1 u2 u3 u1 u2 u3))⁻¹)) (c5 ((((0:Int):Rat)*((w*w) - (c7 u1 u2 u3 u1 u2 u3))+(u2*((0:Int):Rat) - u3*((1:Int):Rat))*(((2:Int):Rat)*w)+u1*(((2:Int):Rat)*c7 u1 u2 u3 ((0:Int):Rat) ((1:Int):Rat) ((0:Int):Rat)))*((w*w)+(c7 u1 u2 u3 u1 u2 u3))⁻¹)) (c5 ((((1:Int):Rat)*((w*w) - (c7 u1 u2 u3 u1 u2 u3))+(u3*((0:Int):Rat) - u1*((0:Int):Rat))*(((2:Int):Rat)*w)+u2*(((2:Int):Rat)*c7 u1 u2 u3 ((0:Int):Rat) ((1:Int):Rat) ((0:Int):Rat)))*((w*w)+(c7 u1 u2 u3 u1 u2 u3))⁻¹)) (c5 ((((0:Int):Rat)*((w*w) - (c7 u1 u2 u3 u1 u2 u3))+(u1*((1:Int):Rat) - u2*((0:Int):Rat))*(((2:Int):Rat)*w)+u3*(((2:Int):Rat)*c7 u1 u2 u3 ((0:Int):Rat) ((1:Int):Rat) ((0:Int):Rat)))*((w*w)+(c7 u1 u2 u3 u1 u2 u3))⁻¹)) (c5 ((((0:Int):Rat)*((w*w) - (c7 u1 u2 u3 u1 u2 u3))+(u2*((1:Int):Rat) - u3*((0:Int):Rat))*(((2:Int):Rat)*w)+u1*(((2:Int):Rat)*c7 u1 u2 u3 ((0:Int):Rat) ((0:Int):Rat) ((1:Int):Rat)))*((w*w)+(c7 u1 u2 u3 u1 u2 u3))⁻¹)) (c5 ((((0:Int):Rat)*((w*w) - (c7 u1 u2 u3 u1 u2 u3))+(u3*((0:Int):Rat) - u1*((1:Int):Rat))*(((2:Int):Rat)*w)+u2*(((2:Int):Rat)*c7 u1 u2 u3 ((0:Int):Rat) ((0:Int):Rat) ((1:Int):Rat)))*((w*w)+(c7 u1 u2 u3 u1 u2 u3))⁻¹)) (c5 ((((1:Int):Rat)*((w*w) - (c7 u1 u2 u3 u1 u2 u3))+(u1*((0:Int):Rat) - u2*((0:Int):Rat))*(((2:Int):Rat)*w)+u3*(((2:Int):Rat)*c7 u1 u2 u3 ((0:Int):Rat) ((0:Int):Rat) ((1:Int):Rat)))*((w*w)+(c7 u1 u2 u3 u1 u2 u3))⁻¹)),N 0]):=by
  have c_c:=a7n (c5 w) (c5 u1) (c5 u2) (c5 u3) (a0g hw) (a0g hu.1) (a0g hu.2.1) (a0g hu.2.2)
  rw [fst4 hw hu.1 hu.2.1 hu.2.2] at c_c
  have c_w:=c4p hw
  have c_u:=a34 hu
  have c_z:=a60 u1 u2 u3
  have c_s:=a7m w
  obtain ⟨qu1,qu2,qu3⟩:=s9 hu
  have qw:=a0z hw
  have c_sq:=a6z w w (c8 qw rfl) (c8 qw rfl)
  have c_ow:=a77 (k:=2400) (by decide) u1 u2 u3 u1 u2 u3 qu1 qu2 qu3 qu1 qu2 qu3
  have c_two:=c_F 2 (by decide) (by decide)
  have hn0:=d03 hq
  have qsq:=c6 qw qw
  have qow:=a0e qu1 qu2 qu3 qu1 qu2 qu3
  have q2:Q 64 ((2:Int):Rat):=c1l (by decide) (by decide)
  have qi0:Q 1 (((0:Int):Rat)):=a9t
  have qi1:Q 1 (((1:Int):Rat)):=b7r
  have c_v0:=a5u 0 0 0 (by decide)
  have c_v1:=a5u 1 0 0 (by decide)
  have c_v2:=a5u 0 1 0 (by decide)
  have c_v3:=a5u 0 0 1 (by decide)
  have c_t0:=b17 (k:=15000) (by decide) ((1:Int):Rat) ((0:Int):Rat) ((0:Int):Rat) (w*w) (c7 u1 u2 u3 u1 u2 u3) ((2:Int):Rat) w u1 u2 u3 hn0 ⟨j4 qi1 rfl,j4 qi0 rfl,j4 qi0 rfl⟩ ⟨j4 qu1 rfl,j4 qu2 rfl,j4 qu3 rfl⟩ (j4 qsq rfl) (j4 qow rfl) (j4 q2 rfl) (j4 qw rfl)
  have c_t1:=b17 (k:=15000) (by decide) ((0:Int):Rat) ((1:Int):Rat) ((0:Int):Rat) (w*w) (c7 u1 u2 u3 u1 u2 u3) ((2:Int):Rat) w u1 u2 u3 hn0 ⟨j4 qi0 rfl,j4 qi1 rfl,j4 qi0 rfl⟩ ⟨j4 qu1 rfl,j4 qu2 rfl,j4 qu3 rfl⟩ (j4 qsq rfl) (j4 qow rfl) (j4 q2 rfl) (j4 qw rfl)
  have c_t2:=b17 (k:=15000) (by decide) ((0:Int):Rat) ((0:Int):Rat) ((1:Int):Rat) (w*w) (c7 u1 u2 u3 u1 u2 u3) ((2:Int):Rat) w u1 u2 u3 hn0 ⟨j4 qi0 rfl,j4 qi0 rfl,j4 qi1 rfl⟩ ⟨j4 qu1 rfl,j4 qu2 rfl,j4 qu3 rfl⟩ (j4 qsq rfl) (j4 qow rfl) (j4 q2 rfl) (j4 qw rfl)
  have hz:decide (u1=0∧u2=0∧u3=0)=true→w.num.sign≠0:=fun h hs=>hq ⟨a2a.1 hs,of_decide_eq_true h⟩
  generalize decide (u1=0∧u2=0∧u3=0)=b at *
  generalize w.num.sign=sg at *
  have hb:b=false∨(b=true∧sg≠0):=by
    cases b
    · exact .inl rfl
    · exact .inr ⟨rfl,hz rfl⟩
  clear hz
  have c_g:=c3l (k:=1000000) (by decide) (((0:Int):Rat)) (((0:Int):Rat)) (((0:Int):Rat)) ((((1:Int):Rat)*((w*w) - (c7 u1 u2 u3 u1 u2 u3))+(u2*((0:Int):Rat) - u3*((0:Int):Rat))*(((2:Int):Rat)*w)+u1*(((2:Int):Rat)*c7 u1 u2 u3 ((1:Int):Rat) ((0:Int):Rat) ((0:Int):Rat)))*((w*w)+(c7 u1 u2 u3 u1 u2 u3))⁻¹) ((((0:Int):Rat)*((w*w) - (c7 u1 u2 u3 u1 u2 u3))+(u3*((1:Int):Rat) - u1*((0:Int):Rat))*(((2:Int):Rat)*w)+u2*(((2:Int):Rat)*c7 u1 u2 u3 ((1:Int):Rat) ((0:Int):Rat) ((0:Int):Rat)))*((w*w)+(c7 u1 u2 u3 u1 u2 u3))⁻¹) ((((0:Int):Rat)*((w*w) - (c7 u1 u2 u3 u1 u2 u3))+(u1*((0:Int):Rat) - u2*((1:Int):Rat))*(((2:Int):Rat)*w)+u3*(((2:Int):Rat)*c7 u1 u2 u3 ((1:Int):Rat) ((0:Int):Rat) ((0:Int):Rat)))*((w*w)+(c7 u1 u2 u3 u1 u2 u3))⁻¹) ((((0:Int):Rat)*((w*w) - (c7 u1 u2 u3 u1 u2 u3))+(u2*((0:Int):Rat) - u3*((1:Int):Rat))*(((2:Int):Rat)*w)+u1*(((2:Int):Rat)*c7 u1 u2 u3 ((0:Int):Rat) ((1:Int):Rat) ((0:Int):Rat)))*((w*w)+(c7 u1 u2 u3 u1 u2 u3))⁻¹) ((((1:Int):Rat)*((w*w) - (c7 u1 u2 u3 u1 u2 u3))+(u3*((0:Int):Rat) - u1*((0:Int):Rat))*(((2:Int):Rat)*w)+u2*(((2:Int):Rat)*c7 u1 u2 u3 ((0:Int):Rat) ((1:Int):Rat) ((0:Int):Rat)))*((w*w)+(c7 u1 u2 u3 u1 u2 u3))⁻¹) ((((0:Int):Rat)*((w*w) - (c7 u1 u2 u3 u1 u2 u3))+(u1*((1:Int):Rat) - u2*((0:Int):Rat))*(((2:Int):Rat)*w)+u3*(((2:Int):Rat)*c7 u1 u2 u3 ((0:Int):Rat) ((1:Int):Rat) ((0:Int):Rat)))*((w*w)+(c7 u1 u2 u3 u1 u2 u3))⁻¹) ((((0:Int):Rat)*((w*w) - (c7 u1 u2 u3 u1 u2 u3))+(u2*((1:Int):Rat) - u3*((0:Int):Rat))*(((2:Int):Rat)*w)+u1*(((2:Int):Rat)*c7 u1 u2 u3 ((0:Int):Rat) ((0:Int):Rat) ((1:Int):Rat)))*((w*w)+(c7 u1 u2 u3 u1 u2 u3))⁻¹) ((((0:Int):Rat)*((w*w) - (c7 u1 u2 u3 u1 u2 u3))+(u3*((0:Int):Rat) - u1*((1:Int):Rat))*(((2:Int):Rat)*w)+u2*(((2:Int):Rat)*c7 u1 u2 u3 ((0:Int):Rat) ((0:Int):Rat) ((1:Int):Rat)))*((w*w)+(c7 u1 u2 u3 u1 u2 u3))⁻¹) ((((1:Int):Rat)*((w*w) - (c7 u1 u2 u3 u1 u2 u3))+(u1*((0:Int):Rat) - u2*((0:Int):Rat))*(((2:Int):Rat)*w)+u3*(((2:Int):Rat)*c7 u1 u2 u3 ((0:Int):Rat) ((0:Int):Rat) ((1:Int):Rat)))*((w*w)+(c7 u1 u2 u3 u1 u2 u3))⁻¹) ⟨j4 qi0 rfl,j4 qi0 rfl,j4 qi0 rfl⟩ ⟨j4 (c6 (f0 (f0 (c6 qi1 (j9 qsq qow)) (c6 (j9 (c6 qu2 qi0) (c6 qu3 qi0)) (c6 q2 qw))) (c6 qu1 (c6 q2 (f0 (f0 (c6 qu1 qi1) (c6 qu2 qi0)) (c6 qu3 qi0))))) (a25 (f0 qsq qow))) rfl,j4 (c6 (f0 (f0 (c6 qi0 (j9 qsq qow)) (c6 (j9 (c6 qu3 qi1) (c6 qu1 qi0)) (c6 q2 qw))) (c6 qu2 (c6 q2 (f0 (f0 (c6 qu1 qi1) (c6 qu2 qi0)) (c6 qu3 qi0))))) (a25 (f0 qsq qow))) rfl,j4 (c6 (f0 (f0 (c6 qi0 (j9 qsq qow)) (c6 (j9 (c6 qu1 qi0) (c6 qu2 qi1)) (c6 q2 qw))) (c6 qu3 (c6 q2 (f0 (f0 (c6 qu1 qi1) (c6 qu2 qi0)) (c6 qu3 qi0))))) (a25 (f0 qsq qow))) rfl⟩ ⟨j4 (c6 (f0 (f0 (c6 qi0 (j9 qsq qow)) (c6 (j9 (c6 qu2 qi0) (c6 qu3 qi1)) (c6 q2 qw))) (c6 qu1 (c6 q2 (f0 (f0 (c6 qu1 qi0) (c6 qu2 qi1)) (c6 qu3 qi0))))) (a25 (f0 qsq qow))) rfl,j4 (c6 (f0 (f0 (c6 qi1 (j9 qsq qow)) (c6 (j9 (c6 qu3 qi0) (c6 qu1 qi0)) (c6 q2 qw))) (c6 qu2 (c6 q2 (f0 (f0 (c6 qu1 qi0) (c6 qu2 qi1)) (c6 qu3 qi0))))) (a25 (f0 qsq qow))) rfl,j4 (c6 (f0 (f0 (c6 qi0 (j9 qsq qow)) (c6 (j9 (c6 qu1 qi1) (c6 qu2 qi0)) (c6 q2 qw))) (c6 qu3 (c6 q2 (f0 (f0 (c6 qu1 qi0) (c6 qu2 qi1)) (c6 qu3 qi0))))) (a25 (f0 qsq qow))) rfl⟩ ⟨j4 (c6 (f0 (f0 (c6 qi0 (j9 qsq qow)) (c6 (j9 (c6 qu2 qi1) (c6 qu3 qi0)) (c6 q2 qw))) (c6 qu1 (c6 q2 (f0 (f0 (c6 qu1 qi0) (c6 qu2 qi0)) (c6 qu3 qi1))))) (a25 (f0 qsq qow))) rfl,j4 (c6 (f0 (f0 (c6 qi0 (j9 qsq qow)) (c6 (j9 (c6 qu3 qi0) (c6 qu1 qi1)) (c6 q2 qw))) (c6 qu2 (c6 q2 (f0 (f0 (c6 qu1 qi0) (c6 qu2 qi0)) (c6 qu3 qi1))))) (a25 (f0 qsq qow))) rfl,j4 (c6 (f0 (f0 (c6 qi1 (j9 qsq qow)) (c6 (j9 (c6 qu1 qi0) (c6 qu2 qi0)) (c6 q2 qw))) (c6 qu3 (c6 q2 (f0 (f0 (c6 qu1 qi0) (c6 qu2 qi0)) (c6 qu3 qi1))))) (a25 (f0 qsq qow))) rfl⟩ hh
  refine r8 Tryz.func62 rfl Tryz.ntmps62 ?_
  intro w0 E0 hc
  repeat' (first|(with_reducible first|refine j0 ?_|refine zwk ?_|refine i6 ?_|refine zgo ?_|refine zbn ?_|refine zge Tryz.results62 ?_|refine Sub.refl _|refine f9|refine w6 (out':=?_) ?_|refine u9 (y:=?_) ?_|refine w5 (eo':=?_) ?_)|(with_reducible refine zrs [1] hc ?_ ?_;focus (with_unfolding_all rfl))|(with_reducible refine zrm [1] hc mixed ?_ ?_;focus (with_unfolding_all rfl))|(with_reducible refine f6 ?_ ?_;focus (first|decide|omega))|(with_reducible first|refine zg2 ?_ ?_|refine zbo ?_|refine zg3 ?_ (fun h=>?_) (fun h=>?_)|refine zg4 (fun h=>?_) (fun h=>?_)|fail)|(omega;done))
  refine a05 hc 0 (sz:=4) (ro:=false) (g:=fun _=> [.v (.string (bs (c5 w))),.v (.string (bs (c5 u1))),.v (.string (bs (c5 u2))),.v (.string (bs (c5 u3)))]) (Is.refl _) ⟨trivial,trivial,trivial,trivial,trivial⟩ rfl ?_
  refine m7 (st':=n5 [(1,.one (.pp [.v (.string (bs (c5 w))),.v (.string (bs (c5 u1))),.v (.string (bs (c5 u2))),.v (.string (bs (c5 u3)))])),(2,.one (.ptr 1 12 0 0)),(3,N 0)] [(1,⟨12,1,fun _=> [.v (.string ⟨#[]⟩),.v (.string ⟨#[]⟩),.v (.string ⟨#[]⟩),.v (.string ⟨#[]⟩),.v (.string ⟨#[]⟩),.v (.string ⟨#[]⟩),.v (.string ⟨#[]⟩),.v (.string ⟨#[]⟩),.v (.string ⟨#[]⟩),.v (.string ⟨#[]⟩),.v (.string ⟨#[]⟩),.v (.string ⟨#[]⟩)],false⟩)] 2) ?_ ?_
  · refine zW1 ?_ <;> repeat' (with_reducible first|exact trivial|refine j3 ?_ ?_|refine t7 (fun i hi=>?_))
  rcases hb with rfl|⟨rfl,hb⟩
  all_goals
    repeat' (first|(with_reducible first|refine j0 ?_|refine zwk ?_|refine i6 ?_|refine zgo ?_|refine zbn ?_|refine zge Tryz.results62 ?_|refine Sub.refl _|refine f9|refine w6 (out':=?_) ?_|refine u9 (y:=?_) ?_|refine w5 (eo':=?_) ?_)|(with_reducible refine zrs [9] hc ?_ ?_;focus (with_unfolding_all rfl))|(with_reducible refine zrm [9] hc mixed ?_ ?_;focus (with_unfolding_all rfl))|(with_reducible refine f6 ?_ ?_;focus (first|decide|omega))|(with_reducible first|refine zg2 ?_ ?_|refine c9 c_c ?_ ?_|refine c9 c_w ?_ ?_|refine c9 c_u ?_ ?_|refine c9 c_s ?_ ?_|refine c9 c_z ?_ ?_|refine c9 c_sq ?_ ?_|refine c9 c_ow ?_ ?_|refine c9 c_two ?_ ?_|refine zbo ?_|refine zg3 ?_ (fun h=>?_) (fun h=>?_)|refine zg4 (fun h=>?_) (fun h=>?_)|fail)|((first|omega|exact absurd rfl (by assumption));done))
  all_goals
    refine m7 (st':=n5 [(2,.one (.ptr 1 12 0 0)),(3,N 0),(5,.one (.ptr 2 4 0 0)),(6,.one (.ptr 3 12 0 0)),(7,.one (.ptr 4 4 0 0)),(8,.one (.ptr 5 4 0 0)),(9,.one (.ptr 6 4 0 0))] [(1,⟨12,1,fun _=> [.v (.string ⟨#[]⟩),.v (.string ⟨#[]⟩),.v (.string ⟨#[]⟩),.v (.string ⟨#[]⟩),.v (.string ⟨#[]⟩),.v (.string ⟨#[]⟩),.v (.string ⟨#[]⟩),.v (.string ⟨#[]⟩),.v (.string ⟨#[]⟩),.v (.string ⟨#[]⟩),.v (.string ⟨#[]⟩),.v (.string ⟨#[]⟩)],false⟩),(2,⟨4,1,fun _=> [.frac w],false⟩),(3,⟨12,1,fun _=> [.frac u1,.frac u2,.frac u3],false⟩),(4,⟨4,1,fun _=> [.frac (w*w)],false⟩),(5,⟨4,1,fun _=> [.frac (c7 u1 u2 u3 u1 u2 u3)],false⟩),(6,⟨4,1,fun _=> [.frac ((2:Int):Rat)],false⟩)] 7) ?_ ?_
    · refine zW1 ?_ <;> repeat' (with_reducible first|exact trivial|refine j3 ?_ ?_|refine t7 (fun i hi=>?_))
    refine a05 hc 2 (sz:=4) (ro:=false) (g:=fun _=> [.frac w]) (Is.refl _) ⟨trivial,trivial⟩ rfl ?_
    refine a05 hc 3 (sz:=12) (ro:=false) (g:=fun _=> [.frac u1,.frac u2,.frac u3]) (Is.refl _) ⟨trivial,trivial,trivial,trivial⟩ rfl ?_
    refine a05 hc 4 (sz:=4) (ro:=false) (g:=fun _=> [.frac (w*w)]) (Is.refl _) ⟨trivial,trivial⟩ rfl ?_
    refine a05 hc 5 (sz:=4) (ro:=false) (g:=fun _=> [.frac (c7 u1 u2 u3 u1 u2 u3)]) (Is.refl _) ⟨trivial,trivial⟩ rfl ?_
    refine a05 hc 6 (sz:=4) (ro:=false) (g:=fun _=> [.frac ((2:Int):Rat)]) (Is.refl _) ⟨trivial,trivial⟩ rfl ?_
    refine m7 (st':=n5 [(2,.one (.ptr 1 12 0 0)),(3,N 0),(5,.one (.pp [.frac w])),(6,.one (.pp [.frac u1,.frac u2,.frac u3])),(7,.one (.pp [.frac (w*w)])),(8,.one (.pp [.frac (c7 u1 u2 u3 u1 u2 u3)])),(9,.one (.pp [.frac ((2:Int):Rat)]))] [(1,⟨12,1,fun _=> [.v (.string ⟨#[]⟩),.v (.string ⟨#[]⟩),.v (.string ⟨#[]⟩),.v (.string ⟨#[]⟩),.v (.string ⟨#[]⟩),.v (.string ⟨#[]⟩),.v (.string ⟨#[]⟩),.v (.string ⟨#[]⟩),.v (.string ⟨#[]⟩),.v (.string ⟨#[]⟩),.v (.string ⟨#[]⟩),.v (.string ⟨#[]⟩)],false⟩)] 7) ?_ ?_
    · refine zW1 ?_ <;> repeat' (with_reducible first|exact trivial|refine j3 ?_ ?_|refine t7 (fun i hi=>?_))
    repeat' (first|refine n7 hc Tryz.results62 ?_|(with_reducible first|exact trivial|refine j3 ?_ ?_|refine m8 (fun h=>?_)|refine c9 c_v0 ?_ ?_|refine c9 c_v1 ?_ ?_|refine c9 c_v2 ?_ ?_|refine c9 c_v3 ?_ ?_|refine c9 c_t0 ?_ ?_|refine c9 c_t1 ?_ ?_|refine c9 c_t2 ?_ ?_|refine c9 c_g ?_ ?_|fail)|(omega;done))
end Go.Proofs
end
