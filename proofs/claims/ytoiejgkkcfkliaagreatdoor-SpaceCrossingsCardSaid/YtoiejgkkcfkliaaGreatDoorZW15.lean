/- Lemmas on the program and its library: part ZW15. -/
import Derived.Test.YtoiejgkkcfkliaaGreatDoorZW12
set_option linter.unusedVariables false
set_option linter.unusedSimpArgs false
section
set_option maxHeartbeats 4000000
set_option maxRecDepth 100000
namespace Go.Proofs
open Go.Ax
abbrev vA (a b c:Rat):AV:=.agg [.frac a,.frac b,.frac c]
theorem c_VOf (x y z:Int) (h:-9223372036854775808≤x∧x < 9223372036854775808∧-9223372036854775808≤y∧y < 9223372036854775808∧-9223372036854775808≤z∧z < 9223372036854775808):Ax.Pure Tryz.prog G 182 [N x,N y,N z] (vA (x:Rat) (y:Rat) (z:Rat)):=by
  refine zen Tryz.func182 rfl Tryz.ntmps182 ?_
  intro w0 E0 hc
  repeat' (first|refine zR1 hc Tryz.results182 ?_|(with_reducible first|exact trivial|refine zan ?_ ?_|refine zim (fun h=>?_)|refine zoc (c_F _ ?_ ?_) ?_ ?_|fail)|(omega;done))
theorem c_VAdd (a b c d e f:Rat) (h:rz a≤1000000000∧rz b≤1000000000∧rz c≤1000000000∧rz d≤1000000000∧rz e≤1000000000∧rz f≤1000000000):Ax.Pure Tryz.prog G 172 [vA a b c,vA d e f] (vA (a+d) (b+e) (c+f)):=by
  refine zen Tryz.func172 rfl Tryz.ntmps172 ?_
  intro w0 E0 hc
  repeat' (first|refine zR1 hc Tryz.results172 ?_|(with_reducible first|exact trivial|refine zan ?_ ?_|refine zim (fun h=>?_)|refine zoc (c_FAdd _ _ ?_ ?_) ?_ ?_|fail)|(omega;done))
theorem c_VSub (a b c d e f:Rat) (h:rz a≤1000000000∧rz b≤1000000000∧rz c≤1000000000∧rz d≤1000000000∧rz e≤1000000000∧rz f≤1000000000):Ax.Pure Tryz.prog G 168 [vA a b c,vA d e f] (vA (a - d) (b - e) (c - f)):=by
  refine zen Tryz.func168 rfl Tryz.ntmps168 ?_
  intro w0 E0 hc
  repeat' (first|refine zR1 hc Tryz.results168 ?_|(with_reducible first|exact trivial|refine zan ?_ ?_|refine zim (fun h=>?_)|refine zoc (c_FSub _ _ ?_ ?_) ?_ ?_|fail)|(omega;done))
theorem c_VScale (a b c k:Rat) (h:rz a≤1000000000∧rz b≤1000000000∧rz c≤1000000000∧rz k≤1000000000):Ax.Pure Tryz.prog G 169 [vA a b c,fracA k] (vA (a*k) (b*k) (c*k)):=by
  refine zen Tryz.func169 rfl Tryz.ntmps169 ?_
  intro w0 E0 hc
  repeat' (first|refine zR1 hc Tryz.results169 ?_|(with_reducible first|exact trivial|refine zan ?_ ?_|refine zim (fun h=>?_)|refine zoc (c_FMul _ _ ?_ ?_) ?_ ?_|fail)|(omega;done))
theorem c_Dot (a b c d e f:Rat) (h:rz a≤100000000∧rz b≤100000000∧rz c≤100000000∧rz d≤100000000∧rz e≤100000000∧rz f≤100000000):Ax.Pure Tryz.prog G 148 [vA a b c,vA d e f] (fracA (a*d+b*e+c*f)):=by
  have h1:=rz_mul a d
  have h2:=rz_mul b e
  have h3:=rz_mul c f
  have h4:=rz_add (a*d) (b*e)
  refine zen Tryz.func148 rfl Tryz.ntmps148 ?_
  intro w0 E0 hc
  repeat' (first|refine zR1 hc Tryz.results148 ?_|(with_reducible first|exact trivial|refine zan ?_ ?_|refine zim (fun h=>?_)|refine zoc (c_FMul _ _ ?_ ?_) ?_ ?_|refine zoc (c_FAdd _ _ ?_ ?_) ?_ ?_|fail)|(omega;done))
theorem c_Cross (a b c d e f:Rat) (h:rz a≤100000000∧rz b≤100000000∧rz c≤100000000∧rz d≤100000000∧rz e≤100000000∧rz f≤100000000):Ax.Pure Tryz.prog G 188 [vA a b c,vA d e f] (vA (b*f - c*e) (c*d - a*f) (a*e - b*d)):=by
  have h1:=rz_mul b f
  have h2:=rz_mul c e
  have h3:=rz_mul c d
  have h4:=rz_mul a f
  have h5:=rz_mul a e
  have h6:=rz_mul b d
  refine zen Tryz.func188 rfl Tryz.ntmps188 ?_
  intro w0 E0 hc
  repeat' (first|refine zR1 hc Tryz.results188 ?_|(with_reducible first|exact trivial|refine zan ?_ ?_|refine zim (fun h=>?_)|refine zoc (c_FMul _ _ ?_ ?_) ?_ ?_|refine zoc (c_FSub _ _ ?_ ?_) ?_ ?_|fail)|(omega;done))
theorem c_IsZero (a b c:Rat):Ax.Pure Tryz.prog G 156 [vA a b c] (Bo (decide (a=0∧b=0∧c=0))):=by
  refine zen Tryz.func156 rfl Tryz.ntmps156 ?_
  intro w0 E0 hc
  repeat' (first|refine zR1 hc Tryz.results156 ?_|(with_reducible first|exact trivial|refine zan ?_ ?_|refine zim (fun h=>?_)|refine zoc (c_FSign _) ?_ ?_|fail)|(omega;done))
  all_goals refine sub_eq ?_
  · rename_i h1
    rw [qsign_zero] at h h1
    subst h h1
    by_cases hc:c=0
    · subst hc;rfl
    · have:¬c.num.sign=0:=fun e=>hc (qsign_zero.1 e)
      simp [this,hc]
  · rw [qsign_zero] at h
    simp [h]
  · rw [qsign_zero] at h
    simp [h]
end Go.Proofs
end
section
set_option maxHeartbeats 4000000
set_option maxRecDepth 100000
namespace Go.Proofs
open Go.Ax
abbrev L64 (l:List Int):AV:=.one (.ints .i64 l)
theorem c_Or (l:List Int) (hl:l.length≤1000000):Ax.Pure Tryz.prog G 262 [L64 l] (N (firstNZ l)):=by
  refine zen Tryz.func262 rfl Tryz.ntmps262 ?_
  intro w0 E0 hc
  repeat' (first|refine zR1 hc Tryz.results262 ?_|(with_reducible first|exact trivial|refine zan ?_ ?_|refine zim (fun h=>?_)|fail)|(omega;done))
  refine Wp_loopI (α:=Nat) (fun i=>stOf [(3,N 0),(6,L64 l),(7,N l.length),(8,N i)] [] 0) (fun i=>i≤l.length∧firstNZ l=firstNZ (l.drop i)) (fun i=>l.length - i) 0 ⟨Nat.zero_le _,rfl⟩ ?_ ?_
  · refine zW1 ?_ <;> repeat' (with_reducible first|exact trivial|refine zan ?_ ?_|refine zal (fun i hi=>?_))
  · rintro i ⟨h1,h2⟩
    have hd:=fun h:i < l.length=>firstNZ_drop h
    repeat' (first|refine zR1 hc Tryz.results262 ?_|(with_reducible first|exact trivial|refine zan ?_ ?_|refine zim (fun h=>?_)|fail)|(omega;done))
    · have hd':=hd (by omega)
      rw [if_neg h] at hd'
      exact sub_eq (by rw [h2,hd'])
    · have hd':=hd (by omega)
      rw [if_pos h] at hd'
      refine ⟨i+1,⟨by omega,by rw [h2,hd']⟩,by omega,?_⟩
      refine zW1 ?_ <;> repeat' (with_reducible first|exact trivial|refine zan ?_ ?_|refine zal (fun i hi=>?_))
    · have:l.length≤i:=by omega
      rw [List.drop_eq_nil_of_le this] at h2
      exact sub_eq (by rw [h2];rfl)
theorem c_Or3 (a b c:Int):Ax.Pure Tryz.prog G 262 [.one (.row 1 3 (fun i=> [[Leaf.v (.int .i64 a)],[Leaf.v (.int .i64 b)],[Leaf.v (.int .i64 c)]].getD i []))] (N (firstNZ [a,b,c])):=
  pure_args (c_Or [a,b,c] (show 3≤1000000 by decide)) ⟨sub_row_list [a,b,c],trivial⟩ ⟨trivial,trivial⟩
theorem c_VCompare (a b c d e f:Rat) (h:rz a≤1000000000∧rz b≤1000000000∧rz c≤1000000000∧rz d≤1000000000∧rz e≤1000000000∧rz f≤1000000000):Ax.Pure Tryz.prog G 239 [vA a b c,vA d e f] (N (firstNZ [cmpQ a d,cmpQ b e,cmpQ c f])):=by
  refine zen Tryz.func239 rfl Tryz.ntmps239 ?_
  intro w0 E0 hc
  repeat' (first|refine zR1 hc Tryz.results239 ?_|(with_reducible first|exact trivial|refine zan ?_ ?_|refine zim (fun h=>?_)|refine zoc (c_FCmp _ _ ?_ ?_) ?_ ?_|refine zoc (c_Or3 _ _ _) ?_ ?_|fail)|((first|omega|decide);done))
theorem first_cmp (a b c d e f:Rat):(firstNZ [cmpQ a d,cmpQ b e,cmpQ c f] == 0)=decide (a=d∧b=e∧c=f):=by
  simp only [firstNZ]
  by_cases h1:a=d
  · have h1':=cmpQ_zero.2 h1
    by_cases h2:b=e
    · have h2':=cmpQ_zero.2 h2
      by_cases h3:c=f
      · have h3':=cmpQ_zero.2 h3
        simp only [h1',h2',h3',if_true,if_false];simp [h1,h2,h3,h3']
      · have h3':¬cmpQ c f=0:=fun x=>h3 (cmpQ_zero.1 x)
        simp only [h1',h2',h3',if_true,if_false];simp [h1,h2,h3,h3']
    · have h2':¬cmpQ b e=0:=fun x=>h2 (cmpQ_zero.1 x)
      simp only [h1',h2',if_true,if_false];simp [h1,h2,h2']
  · have h1':¬cmpQ a d=0:=fun x=>h1 (cmpQ_zero.1 x)
    simp only [h1',if_false];simp [h1,h1']
theorem c_VSame (a b c d e f:Rat) (h:rz a≤1000000000∧rz b≤1000000000∧rz c≤1000000000∧rz d≤1000000000∧rz e≤1000000000∧rz f≤1000000000):Ax.Pure Tryz.prog G 197 [vA a b c,vA d e f] (Bo (decide (a=d∧b=e∧c=f))):=by
  refine zen Tryz.func197 rfl Tryz.ntmps197 ?_
  intro w0 E0 hc
  repeat' (first|refine zR1 hc Tryz.results197 ?_|(with_reducible first|exact trivial|refine zan ?_ ?_|refine zim (fun h=>?_)|refine zoc (c_VCompare _ _ _ _ _ _ ?_) ?_ ?_|fail)|(omega;done))
  all_goals exact sub_eq (by rw [first_cmp])
abbrev hA (a b c d:Rat):AV:=.agg [.frac a,.frac b,.frac c,.frac d]
abbrev fA (o1 o2 o3 x1 x2 x3 y1 y2 y3 z1 z2 z3:Rat):AV:=.agg [.frac o1,.frac o2,.frac o3,.frac x1,.frac x2,.frac x3,.frac y1,.frac y2,.frac y3,.frac z1,.frac z2,.frac z3]
def dot3 (a b c d e f:Rat):Rat:=a*d+b*e+c*f
def det3 (a b c d e f g h i:Rat):Rat:=(b*f - c*e)*g+(c*d - a*f)*h+(a*e - b*d)*i
theorem rz_dot (a b c d e f:Rat):rz (dot3 a b c d e f)≤rz a+rz b+rz c+rz d+rz e+rz f+2:=by
  unfold dot3
  have h1:=rz_mul a d
  have h2:=rz_mul b e
  have h3:=rz_mul c f
  have h4:=rz_add (a*d) (b*e)
  have h5:=rz_add (a*d+b*e) (c*f)
  omega
theorem rz_crs (a b c d:Rat):rz (a*b - c*d)≤rz a+rz b+rz c+rz d+1:=by
  have h1:=rz_mul a b
  have h2:=rz_mul c d
  have h3:=rz_sub (a*b) (c*d)
  omega
theorem c_Det (a b c d e f g h i:Rat) (hb:rz a≤10000000∧rz b≤10000000∧rz c≤10000000∧rz d≤10000000∧rz e≤10000000∧rz f≤10000000∧rz g≤10000000∧rz h≤10000000∧rz i≤10000000):Ax.Pure Tryz.prog G 200 [vA a b c,vA d e f,vA g h i] (fracA (det3 a b c d e f g h i)):=by
  have h1:=rz_crs b f c e
  have h2:=rz_crs c d a f
  have h3:=rz_crs a e b d
  refine zen Tryz.func200 rfl Tryz.ntmps200 ?_
  intro w0 E0 hc
  repeat' (first|refine zR1 hc Tryz.results200 ?_|(with_reducible first|exact trivial|refine zan ?_ ?_|refine zim (fun h=>?_)|refine zoc (c_Cross _ _ _ _ _ _ ?_) ?_ ?_|refine zoc (c_Dot _ _ _ _ _ _ ?_) ?_ ?_|fail)|(omega;done))
  all_goals exact sub_frac rfl
theorem c_Value (a b c d e f g:Rat) (hb:rz a≤100000000∧rz b≤100000000∧rz c≤100000000∧rz d≤100000000∧rz e≤100000000∧rz f≤100000000∧rz g≤100000000):Ax.Pure Tryz.prog G 163 [hA a b c d,vA e f g] (fracA (dot3 a b c e f g - d)):=by
  have h1:=rz_dot a b c e f g
  unfold dot3 at h1
  refine zen Tryz.func163 rfl Tryz.ntmps163 ?_
  intro w0 E0 hc
  repeat' (first|refine zR1 hc Tryz.results163 ?_|(with_reducible first|exact trivial|refine zan ?_ ?_|refine zim (fun h=>?_)|refine zoc (c_Dot _ _ _ _ _ _ ?_) ?_ ?_|refine zoc (c_FSub _ _ ?_ ?_) ?_ ?_|fail)|(omega;done))
  all_goals exact sub_frac rfl
theorem c_Turn (o1 o2 o3 x1 x2 x3 y1 y2 y3 z1 z2 z3 a b c:Rat) (hb:rz o1≤100000000∧rz o2≤100000000∧rz o3≤100000000∧rz x1≤100000000∧rz x2≤100000000∧rz x3≤100000000∧rz y1≤100000000∧rz y2≤100000000∧rz y3≤100000000∧rz z1≤100000000∧rz z2≤100000000∧rz z3≤100000000∧rz a≤100000000∧rz b≤100000000∧rz c≤100000000):Ax.Pure Tryz.prog G 180 [fA o1 o2 o3 x1 x2 x3 y1 y2 y3 z1 z2 z3,vA a b c] (vA (x1*a+y1*b+z1*c) (x2*a+y2*b+z2*c) (x3*a+y3*b+z3*c)):=by
  have mx1:=rz_mul x1 a
  have mx2:=rz_mul x2 a
  have mx3:=rz_mul x3 a
  have my1:=rz_mul y1 b
  have my2:=rz_mul y2 b
  have my3:=rz_mul y3 b
  have mz1:=rz_mul z1 c
  have mz2:=rz_mul z2 c
  have mz3:=rz_mul z3 c
  have s1:=rz_add (x1*a) (y1*b)
  have s2:=rz_add (x2*a) (y2*b)
  have s3:=rz_add (x3*a) (y3*b)
  refine zen Tryz.func180 rfl Tryz.ntmps180 ?_
  intro w0 E0 hc
  repeat' (first|refine zR1 hc Tryz.results180 ?_|(with_reducible first|exact trivial|refine zan ?_ ?_|refine zim (fun h=>?_)|refine zoc (c_VScale _ _ _ _ ?_) ?_ ?_|refine zoc (c_VAdd _ _ _ _ _ _ ?_) ?_ ?_|fail)|(omega;done))
theorem c_Place (o1 o2 o3 x1 x2 x3 y1 y2 y3 z1 z2 z3 a b c:Rat) (hb:rz o1≤10000000∧rz o2≤10000000∧rz o3≤10000000∧rz x1≤10000000∧rz x2≤10000000∧rz x3≤10000000∧rz y1≤10000000∧rz y2≤10000000∧rz y3≤10000000∧rz z1≤10000000∧rz z2≤10000000∧rz z3≤10000000∧rz a≤10000000∧rz b≤10000000∧rz c≤10000000):Ax.Pure Tryz.prog G 179 [fA o1 o2 o3 x1 x2 x3 y1 y2 y3 z1 z2 z3,vA a b c] (vA (o1+(x1*a+y1*b+z1*c)) (o2+(x2*a+y2*b+z2*c)) (o3+(x3*a+y3*b+z3*c))):=by
  have d1:=rz_dot x1 y1 z1 a b c
  unfold dot3 at d1
  have d2:=rz_dot x2 y2 z2 a b c
  unfold dot3 at d2
  have d3:=rz_dot x3 y3 z3 a b c
  unfold dot3 at d3
  refine zen Tryz.func179 rfl Tryz.ntmps179 ?_
  intro w0 E0 hc
  repeat' (first|refine zR1 hc Tryz.results179 ?_|(with_reducible first|exact trivial|refine zan ?_ ?_|refine zim (fun h=>?_)|refine zoc (c_Turn _ _ _ _ _ _ _ _ _ _ _ _ _ _ _ ?_) ?_ ?_|refine zoc (c_VAdd _ _ _ _ _ _ ?_) ?_ ?_|fail)|(omega;done))
end Go.Proofs
end
section
set_option maxHeartbeats 8000000
set_option maxRecDepth 100000
namespace Go.Proofs
open Go.Ax
theorem rz_div (a b:Rat):rz (a / b)≤rz a+rz b+1:=by
  rw [Rat.div_def]
  have h1:=rz_mul a b⁻¹
  have h2:=rz_inv b
  omega
def phN (x1 x2 x3 y1 y2 y3 z1 z2 z3 a b c:Rat):Rat×Rat×Rat:=(x1*(a / dot3 x1 x2 x3 x1 x2 x3)+y1*(b / dot3 y1 y2 y3 y1 y2 y3)+z1*(c / dot3 z1 z2 z3 z1 z2 z3),x2*(a / dot3 x1 x2 x3 x1 x2 x3)+y2*(b / dot3 y1 y2 y3 y1 y2 y3)+z2*(c / dot3 z1 z2 z3 z1 z2 z3),x3*(a / dot3 x1 x2 x3 x1 x2 x3)+y3*(b / dot3 y1 y2 y3 y1 y2 y3)+z3*(c / dot3 z1 z2 z3 z1 z2 z3))
theorem c_VPlaceHalf (o1 o2 o3 x1 x2 x3 y1 y2 y3 z1 z2 z3 a b c d:Rat) (hx:dot3 x1 x2 x3 x1 x2 x3≠0) (hy:dot3 y1 y2 y3 y1 y2 y3≠0) (hz:dot3 z1 z2 z3 z1 z2 z3≠0) (hb:rz o1≤1000000∧rz o2≤1000000∧rz o3≤1000000∧rz x1≤1000000∧rz x2≤1000000∧rz x3≤1000000∧rz y1≤1000000∧rz y2≤1000000∧rz y3≤1000000∧rz z1≤1000000∧rz z2≤1000000∧rz z3≤1000000∧rz a≤1000000∧rz b≤1000000∧rz c≤1000000∧rz d≤1000000):Ax.Pure Tryz.prog G 146 [fA o1 o2 o3 x1 x2 x3 y1 y2 y3 z1 z2 z3,hA a b c d] (hA ((phN x1 x2 x3 y1 y2 y3 z1 z2 z3 a b c).1) ((phN x1 x2 x3 y1 y2 y3 z1 z2 z3 a b c).2.1) ((phN x1 x2 x3 y1 y2 y3 z1 z2 z3 a b c).2.2) (d+dot3 ((phN x1 x2 x3 y1 y2 y3 z1 z2 z3 a b c).1) ((phN x1 x2 x3 y1 y2 y3 z1 z2 z3 a b c).2.1) ((phN x1 x2 x3 y1 y2 y3 z1 z2 z3 a b c).2.2) o1 o2 o3)):=by
  have qx:=rz_dot x1 x2 x3 x1 x2 x3
  have qy:=rz_dot y1 y2 y3 y1 y2 y3
  have qz:=rz_dot z1 z2 z3 z1 z2 z3
  have rx:=rz_div a (dot3 x1 x2 x3 x1 x2 x3)
  have ry:=rz_div b (dot3 y1 y2 y3 y1 y2 y3)
  have rz:=rz_div c (dot3 z1 z2 z3 z1 z2 z3)
  have mx1:=rz_mul x1 (a / dot3 x1 x2 x3 x1 x2 x3)
  have mx2:=rz_mul x2 (a / dot3 x1 x2 x3 x1 x2 x3)
  have mx3:=rz_mul x3 (a / dot3 x1 x2 x3 x1 x2 x3)
  have my1:=rz_mul y1 (b / dot3 y1 y2 y3 y1 y2 y3)
  have my2:=rz_mul y2 (b / dot3 y1 y2 y3 y1 y2 y3)
  have my3:=rz_mul y3 (b / dot3 y1 y2 y3 y1 y2 y3)
  have mz1:=rz_mul z1 (c / dot3 z1 z2 z3 z1 z2 z3)
  have mz2:=rz_mul z2 (c / dot3 z1 z2 z3 z1 z2 z3)
  have mz3:=rz_mul z3 (c / dot3 z1 z2 z3 z1 z2 z3)
  have s1:=rz_add (x1*(a / dot3 x1 x2 x3 x1 x2 x3)) (y1*(b / dot3 y1 y2 y3 y1 y2 y3))
  have s2:=rz_add (x2*(a / dot3 x1 x2 x3 x1 x2 x3)) (y2*(b / dot3 y1 y2 y3 y1 y2 y3))
  have s3:=rz_add (x3*(a / dot3 x1 x2 x3 x1 x2 x3)) (y3*(b / dot3 y1 y2 y3 y1 y2 y3))
  have t1:=rz_add (x1*(a / dot3 x1 x2 x3 x1 x2 x3)+y1*(b / dot3 y1 y2 y3 y1 y2 y3)) (z1*(c / dot3 z1 z2 z3 z1 z2 z3))
  have t2:=rz_add (x2*(a / dot3 x1 x2 x3 x1 x2 x3)+y2*(b / dot3 y1 y2 y3 y1 y2 y3)) (z2*(c / dot3 z1 z2 z3 z1 z2 z3))
  have t3:=rz_add (x3*(a / dot3 x1 x2 x3 x1 x2 x3)+y3*(b / dot3 y1 y2 y3 y1 y2 y3)) (z3*(c / dot3 z1 z2 z3 z1 z2 z3))
  have u:=rz_dot (x1*(a / dot3 x1 x2 x3 x1 x2 x3)+y1*(b / dot3 y1 y2 y3 y1 y2 y3)+z1*(c / dot3 z1 z2 z3 z1 z2 z3)) (x2*(a / dot3 x1 x2 x3 x1 x2 x3)+y2*(b / dot3 y1 y2 y3 y1 y2 y3)+z2*(c / dot3 z1 z2 z3 z1 z2 z3)) (x3*(a / dot3 x1 x2 x3 x1 x2 x3)+y3*(b / dot3 y1 y2 y3 y1 y2 y3)+z3*(c / dot3 z1 z2 z3 z1 z2 z3)) o1 o2 o3
  unfold dot3 at *
  refine zen Tryz.func146 rfl Tryz.ntmps146 ?_
  intro w0 E0 hc
  repeat' (first|refine zR1 hc Tryz.results146 ?_|(with_reducible first|exact trivial|refine zan ?_ ?_|refine zim (fun h=>?_)|refine zoc (c_Dot _ _ _ _ _ _ ?_) ?_ ?_|refine zoc (c_FDiv _ _ ?_ ?_ ?_) ?_ ?_|refine zoc (c_VScale _ _ _ _ ?_) ?_ ?_|refine zoc (c_VAdd _ _ _ _ _ _ ?_) ?_ ?_|refine zoc (c_FAdd _ _ ?_ ?_) ?_ ?_|fail)|((first|exact hx|exact hy|exact hz|omega);done))
  all_goals exact Sub.refl _
end Go.Proofs
end
