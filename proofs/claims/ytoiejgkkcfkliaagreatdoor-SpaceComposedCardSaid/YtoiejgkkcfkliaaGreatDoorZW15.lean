/- Lemmas on the program and its library: part ZW15. -/
import Derived.Test.YtoiejgkkcfkliaaGreatDoorZW12
set_option linter.unusedVariables false
set_option linter.unusedSimpArgs false
section
set_option maxHeartbeats 4000000
set_option maxRecDepth 100000
namespace Go.Proofs
open Go.Ax
abbrev vA (a b c:Rat):AV:=.agg [.frac a,.frac b,.frac c]
theorem a5u (x y z:Int) (h:-9223372036854775808≤x∧x < 9223372036854775808∧-9223372036854775808≤y∧y < 9223372036854775808∧-9223372036854775808≤z∧z < 9223372036854775808):Ax.Pure Tryz.prog G 182 [N x,N y,N z] (vA (x:Rat) (y:Rat) (z:Rat)):=by
  refine r8 Tryz.func182 rfl Tryz.ntmps182 ?_
  intro w0 E0 hc
  repeat' (first|refine n7 hc Tryz.results182 ?_|(with_reducible first|exact trivial|refine j3 ?_ ?_|refine m8 (fun h=>?_)|refine c9 (c_F _ ?_ ?_) ?_ ?_|fail)|(omega;done))
theorem b3o (a b c d e f:Rat) (h:rz a≤1000000000∧rz b≤1000000000∧rz c≤1000000000∧rz d≤1000000000∧rz e≤1000000000∧rz f≤1000000000):Ax.Pure Tryz.prog G 172 [vA a b c,vA d e f] (vA (a+d) (b+e) (c+f)):=by
  refine r8 Tryz.func172 rfl Tryz.ntmps172 ?_
  intro w0 E0 hc
  repeat' (first|refine n7 hc Tryz.results172 ?_|(with_reducible first|exact trivial|refine j3 ?_ ?_|refine m8 (fun h=>?_)|refine c9 (b6i _ _ ?_ ?_) ?_ ?_|fail)|(omega;done))
theorem c3d (a b c d e f:Rat) (h:rz a≤1000000000∧rz b≤1000000000∧rz c≤1000000000∧rz d≤1000000000∧rz e≤1000000000∧rz f≤1000000000):Ax.Pure Tryz.prog G 168 [vA a b c,vA d e f] (vA (a - d) (b - e) (c - f)):=by
  refine r8 Tryz.func168 rfl Tryz.ntmps168 ?_
  intro w0 E0 hc
  repeat' (first|refine n7 hc Tryz.results168 ?_|(with_reducible first|exact trivial|refine j3 ?_ ?_|refine m8 (fun h=>?_)|refine c9 (b9f _ _ ?_ ?_) ?_ ?_|fail)|(omega;done))
theorem a3x (a b c k:Rat) (h:rz a≤1000000000∧rz b≤1000000000∧rz c≤1000000000∧rz k≤1000000000):Ax.Pure Tryz.prog G 169 [vA a b c,a0h k] (vA (a*k) (b*k) (c*k)):=by
  refine r8 Tryz.func169 rfl Tryz.ntmps169 ?_
  intro w0 E0 hc
  repeat' (first|refine n7 hc Tryz.results169 ?_|(with_reducible first|exact trivial|refine j3 ?_ ?_|refine m8 (fun h=>?_)|refine c9 (a6z _ _ ?_ ?_) ?_ ?_|fail)|(omega;done))
theorem c1s (a b c d e f:Rat) (h:rz a≤100000000∧rz b≤100000000∧rz c≤100000000∧rz d≤100000000∧rz e≤100000000∧rz f≤100000000):Ax.Pure Tryz.prog G 148 [vA a b c,vA d e f] (a0h (a*d+b*e+c*f)):=by
  have h1:=a0q a d
  have h2:=a0q b e
  have h3:=a0q c f
  have h4:=a5d (a*d) (b*e)
  refine r8 Tryz.func148 rfl Tryz.ntmps148 ?_
  intro w0 E0 hc
  repeat' (first|refine n7 hc Tryz.results148 ?_|(with_reducible first|exact trivial|refine j3 ?_ ?_|refine m8 (fun h=>?_)|refine c9 (a6z _ _ ?_ ?_) ?_ ?_|refine c9 (b6i _ _ ?_ ?_) ?_ ?_|fail)|(omega;done))
theorem c2y (a b c d e f:Rat) (h:rz a≤100000000∧rz b≤100000000∧rz c≤100000000∧rz d≤100000000∧rz e≤100000000∧rz f≤100000000):Ax.Pure Tryz.prog G 188 [vA a b c,vA d e f] (vA (b*f - c*e) (c*d - a*f) (a*e - b*d)):=by
  have h1:=a0q b f
  have h2:=a0q c e
  have h3:=a0q c d
  have h4:=a0q a f
  have h5:=a0q a e
  have h6:=a0q b d
  refine r8 Tryz.func188 rfl Tryz.ntmps188 ?_
  intro w0 E0 hc
  repeat' (first|refine n7 hc Tryz.results188 ?_|(with_reducible first|exact trivial|refine j3 ?_ ?_|refine m8 (fun h=>?_)|refine c9 (a6z _ _ ?_ ?_) ?_ ?_|refine c9 (b9f _ _ ?_ ?_) ?_ ?_|fail)|(omega;done))
theorem a60 (a b c:Rat):Ax.Pure Tryz.prog G 156 [vA a b c] (Bo (decide (a=0∧b=0∧c=0))):=by
  refine r8 Tryz.func156 rfl Tryz.ntmps156 ?_
  intro w0 E0 hc
  repeat' (first|refine n7 hc Tryz.results156 ?_|(with_reducible first|exact trivial|refine j3 ?_ ?_|refine m8 (fun h=>?_)|refine c9 (a7m _) ?_ ?_|fail)|(omega;done))
  all_goals refine j6 ?_
  · rename_i h1
    rw [a2a] at h h1
    subst h h1
    by_cases hc:c=0
    · subst hc;rfl
    · have:¬c.num.sign=0:=fun e=>hc (a2a.1 e)
      simp [this,hc]
  · rw [a2a] at h
    simp [h]
  · rw [a2a] at h
    simp [h]
end Go.Proofs
end
section
set_option maxHeartbeats 4000000
set_option maxRecDepth 100000
namespace Go.Proofs
open Go.Ax
abbrev L64 (l:List Int):AV:=.one (.ints .i64 l)
theorem c_Or (l:List Int) (hl:l.length≤1000000):Ax.Pure Tryz.prog G 262 [L64 l] (N (u5 l)):=by
  refine r8 Tryz.func262 rfl Tryz.ntmps262 ?_
  intro w0 E0 hc
  repeat' (first|refine n7 hc Tryz.results262 ?_|(with_reducible first|exact trivial|refine j3 ?_ ?_|refine m8 (fun h=>?_)|fail)|(omega;done))
  refine m9 (α:=Nat) (fun i=>n5 [(3,N 0),(6,L64 l),(7,N l.length),(8,N i)] [] 0) (fun i=>i≤l.length∧u5 l=u5 (l.drop i)) (fun i=>l.length - i) 0 ⟨Nat.zero_le _,rfl⟩ ?_ ?_
  · refine zW1 ?_ <;> repeat' (with_reducible first|exact trivial|refine j3 ?_ ?_|refine t7 (fun i hi=>?_))
  · rintro i ⟨h1,h2⟩
    have hd:=fun h:i < l.length=>a4n h
    repeat' (first|refine n7 hc Tryz.results262 ?_|(with_reducible first|exact trivial|refine j3 ?_ ?_|refine m8 (fun h=>?_)|fail)|(omega;done))
    · have hd':=hd (by omega)
      rw [if_neg h] at hd'
      exact j6 (by rw [h2,hd'])
    · have hd':=hd (by omega)
      rw [if_pos h] at hd'
      refine ⟨i+1,⟨by omega,by rw [h2,hd']⟩,by omega,?_⟩
      refine zW1 ?_ <;> repeat' (with_reducible first|exact trivial|refine j3 ?_ ?_|refine t7 (fun i hi=>?_))
    · have:l.length≤i:=by omega
      rw [List.drop_eq_nil_of_le this] at h2
      exact j6 (by rw [h2];rfl)
theorem c_Or3 (a b c:Int):Ax.Pure Tryz.prog G 262 [.one (.row 1 3 (fun i=> [[i7.v (.int .i64 a)],[i7.v (.int .i64 b)],[i7.v (.int .i64 c)]].getD i []))] (N (u5 [a,b,c])):=
  w8 (c_Or [a,b,c] (show 3≤1000000 by decide)) ⟨a3p [a,b,c],trivial⟩ ⟨trivial,trivial⟩
theorem c75 (a b c d e f:Rat) (h:rz a≤1000000000∧rz b≤1000000000∧rz c≤1000000000∧rz d≤1000000000∧rz e≤1000000000∧rz f≤1000000000):Ax.Pure Tryz.prog G 239 [vA a b c,vA d e f] (N (u5 [b3s a d,b3s b e,b3s c f])):=by
  refine r8 Tryz.func239 rfl Tryz.ntmps239 ?_
  intro w0 E0 hc
  repeat' (first|refine n7 hc Tryz.results239 ?_|(with_reducible first|exact trivial|refine j3 ?_ ?_|refine m8 (fun h=>?_)|refine c9 (d48 _ _ ?_ ?_) ?_ ?_|refine c9 (c_Or3 _ _ _) ?_ ?_|fail)|((first|omega|decide);done))
theorem d2f (a b c d e f:Rat):(u5 [b3s a d,b3s b e,b3s c f] == 0)=decide (a=d∧b=e∧c=f):=by
  simp only [u5]
  by_cases h1:a=d
  · have h1':=a6n.2 h1
    by_cases h2:b=e
    · have h2':=a6n.2 h2
      by_cases h3:c=f
      · have h3':=a6n.2 h3
        simp only [h1',h2',h3',if_true,if_false];simp [h1,h2,h3,h3']
      · have h3':¬b3s c f=0:=fun x=>h3 (a6n.1 x)
        simp only [h1',h2',h3',if_true,if_false];simp [h1,h2,h3,h3']
    · have h2':¬b3s b e=0:=fun x=>h2 (a6n.1 x)
      simp only [h1',h2',if_true,if_false];simp [h1,h2,h2']
  · have h1':¬b3s a d=0:=fun x=>h1 (a6n.1 x)
    simp only [h1',if_false];simp [h1,h1']
theorem d8b (a b c d e f:Rat) (h:rz a≤1000000000∧rz b≤1000000000∧rz c≤1000000000∧rz d≤1000000000∧rz e≤1000000000∧rz f≤1000000000):Ax.Pure Tryz.prog G 197 [vA a b c,vA d e f] (Bo (decide (a=d∧b=e∧c=f))):=by
  refine r8 Tryz.func197 rfl Tryz.ntmps197 ?_
  intro w0 E0 hc
  repeat' (first|refine n7 hc Tryz.results197 ?_|(with_reducible first|exact trivial|refine j3 ?_ ?_|refine m8 (fun h=>?_)|refine c9 (c75 _ _ _ _ _ _ ?_) ?_ ?_|fail)|(omega;done))
  all_goals exact j6 (by rw [d2f])
abbrev hA (a b c d:Rat):AV:=.agg [.frac a,.frac b,.frac c,.frac d]
abbrev fA (o1 o2 o3 x1 x2 x3 y1 y2 y3 z1 z2 z3:Rat):AV:=.agg [.frac o1,.frac o2,.frac o3,.frac x1,.frac x2,.frac x3,.frac y1,.frac y2,.frac y3,.frac z1,.frac z2,.frac z3]
def c7 (a b c d e f:Rat):Rat:=a*d+b*e+c*f
def a94 (a b c d e f g h i:Rat):Rat:=(b*f - c*e)*g+(c*d - a*f)*h+(a*e - b*d)*i
theorem a8d (a b c d e f:Rat):rz (c7 a b c d e f)≤rz a+rz b+rz c+rz d+rz e+rz f+2:=by
  unfold c7
  have h1:=a0q a d
  have h2:=a0q b e
  have h3:=a0q c f
  have h4:=a5d (a*d) (b*e)
  have h5:=a5d (a*d+b*e) (c*f)
  omega
theorem c89 (a b c d:Rat):rz (a*b - c*d)≤rz a+rz b+rz c+rz d+1:=by
  have h1:=a0q a b
  have h2:=a0q c d
  have h3:=c4n (a*b) (c*d)
  omega
theorem c_Det (a b c d e f g h i:Rat) (hb:rz a≤10000000∧rz b≤10000000∧rz c≤10000000∧rz d≤10000000∧rz e≤10000000∧rz f≤10000000∧rz g≤10000000∧rz h≤10000000∧rz i≤10000000):Ax.Pure Tryz.prog G 200 [vA a b c,vA d e f,vA g h i] (a0h (a94 a b c d e f g h i)):=by
  have h1:=c89 b f c e
  have h2:=c89 c d a f
  have h3:=c89 a e b d
  refine r8 Tryz.func200 rfl Tryz.ntmps200 ?_
  intro w0 E0 hc
  repeat' (first|refine n7 hc Tryz.results200 ?_|(with_reducible first|exact trivial|refine j3 ?_ ?_|refine m8 (fun h=>?_)|refine c9 (c2y _ _ _ _ _ _ ?_) ?_ ?_|refine c9 (c1s _ _ _ _ _ _ ?_) ?_ ?_|fail)|(omega;done))
  all_goals exact a4u rfl
theorem c3e (a b c d e f g:Rat) (hb:rz a≤100000000∧rz b≤100000000∧rz c≤100000000∧rz d≤100000000∧rz e≤100000000∧rz f≤100000000∧rz g≤100000000):Ax.Pure Tryz.prog G 163 [hA a b c d,vA e f g] (a0h (c7 a b c e f g - d)):=by
  have h1:=a8d a b c e f g
  unfold c7 at h1
  refine r8 Tryz.func163 rfl Tryz.ntmps163 ?_
  intro w0 E0 hc
  repeat' (first|refine n7 hc Tryz.results163 ?_|(with_reducible first|exact trivial|refine j3 ?_ ?_|refine m8 (fun h=>?_)|refine c9 (c1s _ _ _ _ _ _ ?_) ?_ ?_|refine c9 (b9f _ _ ?_ ?_) ?_ ?_|fail)|(omega;done))
  all_goals exact a4u rfl
theorem b3n (o1 o2 o3 x1 x2 x3 y1 y2 y3 z1 z2 z3 a b c:Rat) (hb:rz o1≤100000000∧rz o2≤100000000∧rz o3≤100000000∧rz x1≤100000000∧rz x2≤100000000∧rz x3≤100000000∧rz y1≤100000000∧rz y2≤100000000∧rz y3≤100000000∧rz z1≤100000000∧rz z2≤100000000∧rz z3≤100000000∧rz a≤100000000∧rz b≤100000000∧rz c≤100000000):Ax.Pure Tryz.prog G 180 [fA o1 o2 o3 x1 x2 x3 y1 y2 y3 z1 z2 z3,vA a b c] (vA (x1*a+y1*b+z1*c) (x2*a+y2*b+z2*c) (x3*a+y3*b+z3*c)):=by
  have mx1:=a0q x1 a
  have mx2:=a0q x2 a
  have mx3:=a0q x3 a
  have my1:=a0q y1 b
  have my2:=a0q y2 b
  have my3:=a0q y3 b
  have mz1:=a0q z1 c
  have mz2:=a0q z2 c
  have mz3:=a0q z3 c
  have s1:=a5d (x1*a) (y1*b)
  have s2:=a5d (x2*a) (y2*b)
  have s3:=a5d (x3*a) (y3*b)
  refine r8 Tryz.func180 rfl Tryz.ntmps180 ?_
  intro w0 E0 hc
  repeat' (first|refine n7 hc Tryz.results180 ?_|(with_reducible first|exact trivial|refine j3 ?_ ?_|refine m8 (fun h=>?_)|refine c9 (a3x _ _ _ _ ?_) ?_ ?_|refine c9 (b3o _ _ _ _ _ _ ?_) ?_ ?_|fail)|(omega;done))
theorem c3b (o1 o2 o3 x1 x2 x3 y1 y2 y3 z1 z2 z3 a b c:Rat) (hb:rz o1≤10000000∧rz o2≤10000000∧rz o3≤10000000∧rz x1≤10000000∧rz x2≤10000000∧rz x3≤10000000∧rz y1≤10000000∧rz y2≤10000000∧rz y3≤10000000∧rz z1≤10000000∧rz z2≤10000000∧rz z3≤10000000∧rz a≤10000000∧rz b≤10000000∧rz c≤10000000):Ax.Pure Tryz.prog G 179 [fA o1 o2 o3 x1 x2 x3 y1 y2 y3 z1 z2 z3,vA a b c] (vA (o1+(x1*a+y1*b+z1*c)) (o2+(x2*a+y2*b+z2*c)) (o3+(x3*a+y3*b+z3*c))):=by
  have d1:=a8d x1 y1 z1 a b c
  unfold c7 at d1
  have d2:=a8d x2 y2 z2 a b c
  unfold c7 at d2
  have d3:=a8d x3 y3 z3 a b c
  unfold c7 at d3
  refine r8 Tryz.func179 rfl Tryz.ntmps179 ?_
  intro w0 E0 hc
  repeat' (first|refine n7 hc Tryz.results179 ?_|(with_reducible first|exact trivial|refine j3 ?_ ?_|refine m8 (fun h=>?_)|refine c9 (b3n _ _ _ _ _ _ _ _ _ _ _ _ _ _ _ ?_) ?_ ?_|refine c9 (b3o _ _ _ _ _ _ ?_) ?_ ?_|fail)|(omega;done))
end Go.Proofs
end
section
set_option maxHeartbeats 8000000
set_option maxRecDepth 100000
namespace Go.Proofs
open Go.Ax
theorem c9a (a b:Rat):rz (a / b)≤rz a+rz b+1:=by
  rw [Rat.div_def]
  have h1:=a0q a b⁻¹
  have h2:=d6y b
  omega
def phN (x1 x2 x3 y1 y2 y3 z1 z2 z3 a b c:Rat):Rat×Rat×Rat:=(x1*(a / c7 x1 x2 x3 x1 x2 x3)+y1*(b / c7 y1 y2 y3 y1 y2 y3)+z1*(c / c7 z1 z2 z3 z1 z2 z3),x2*(a / c7 x1 x2 x3 x1 x2 x3)+y2*(b / c7 y1 y2 y3 y1 y2 y3)+z2*(c / c7 z1 z2 z3 z1 z2 z3),x3*(a / c7 x1 x2 x3 x1 x2 x3)+y3*(b / c7 y1 y2 y3 y1 y2 y3)+z3*(c / c7 z1 z2 z3 z1 z2 z3))
theorem c3c (o1 o2 o3 x1 x2 x3 y1 y2 y3 z1 z2 z3 a b c d:Rat) (hx:c7 x1 x2 x3 x1 x2 x3≠0) (hy:c7 y1 y2 y3 y1 y2 y3≠0) (hz:c7 z1 z2 z3 z1 z2 z3≠0) (hb:rz o1≤1000000∧rz o2≤1000000∧rz o3≤1000000∧rz x1≤1000000∧rz x2≤1000000∧rz x3≤1000000∧rz y1≤1000000∧rz y2≤1000000∧rz y3≤1000000∧rz z1≤1000000∧rz z2≤1000000∧rz z3≤1000000∧rz a≤1000000∧rz b≤1000000∧rz c≤1000000∧rz d≤1000000):Ax.Pure Tryz.prog G 146 [fA o1 o2 o3 x1 x2 x3 y1 y2 y3 z1 z2 z3,hA a b c d] (hA ((phN x1 x2 x3 y1 y2 y3 z1 z2 z3 a b c).1) ((phN x1 x2 x3 y1 y2 y3 z1 z2 z3 a b c).2.1) ((phN x1 x2 x3 y1 y2 y3 z1 z2 z3 a b c).2.2) (d+c7 ((phN x1 x2 x3 y1 y2 y3 z1 z2 z3 a b c).1) ((phN x1 x2 x3 y1 y2 y3 z1 z2 z3 a b c).2.1) ((phN x1 x2 x3 y1 y2 y3 z1 z2 z3 a b c).2.2) o1 o2 o3)):=by
  have qx:=a8d x1 x2 x3 x1 x2 x3
  have qy:=a8d y1 y2 y3 y1 y2 y3
  have qz:=a8d z1 z2 z3 z1 z2 z3
  have rx:=c9a a (c7 x1 x2 x3 x1 x2 x3)
  have ry:=c9a b (c7 y1 y2 y3 y1 y2 y3)
  have rz:=c9a c (c7 z1 z2 z3 z1 z2 z3)
  have mx1:=a0q x1 (a / c7 x1 x2 x3 x1 x2 x3)
  have mx2:=a0q x2 (a / c7 x1 x2 x3 x1 x2 x3)
  have mx3:=a0q x3 (a / c7 x1 x2 x3 x1 x2 x3)
  have my1:=a0q y1 (b / c7 y1 y2 y3 y1 y2 y3)
  have my2:=a0q y2 (b / c7 y1 y2 y3 y1 y2 y3)
  have my3:=a0q y3 (b / c7 y1 y2 y3 y1 y2 y3)
  have mz1:=a0q z1 (c / c7 z1 z2 z3 z1 z2 z3)
  have mz2:=a0q z2 (c / c7 z1 z2 z3 z1 z2 z3)
  have mz3:=a0q z3 (c / c7 z1 z2 z3 z1 z2 z3)
  have s1:=a5d (x1*(a / c7 x1 x2 x3 x1 x2 x3)) (y1*(b / c7 y1 y2 y3 y1 y2 y3))
  have s2:=a5d (x2*(a / c7 x1 x2 x3 x1 x2 x3)) (y2*(b / c7 y1 y2 y3 y1 y2 y3))
  have s3:=a5d (x3*(a / c7 x1 x2 x3 x1 x2 x3)) (y3*(b / c7 y1 y2 y3 y1 y2 y3))
  have t1:=a5d (x1*(a / c7 x1 x2 x3 x1 x2 x3)+y1*(b / c7 y1 y2 y3 y1 y2 y3)) (z1*(c / c7 z1 z2 z3 z1 z2 z3))
  have t2:=a5d (x2*(a / c7 x1 x2 x3 x1 x2 x3)+y2*(b / c7 y1 y2 y3 y1 y2 y3)) (z2*(c / c7 z1 z2 z3 z1 z2 z3))
  have t3:=a5d (x3*(a / c7 x1 x2 x3 x1 x2 x3)+y3*(b / c7 y1 y2 y3 y1 y2 y3)) (z3*(c / c7 z1 z2 z3 z1 z2 z3))
  have u:=a8d (x1*(a / c7 x1 x2 x3 x1 x2 x3)+y1*(b / c7 y1 y2 y3 y1 y2 y3)+z1*(c / c7 z1 z2 z3 z1 z2 z3)) (x2*(a / c7 x1 x2 x3 x1 x2 x3)+y2*(b / c7 y1 y2 y3 y1 y2 y3)+z2*(c / c7 z1 z2 z3 z1 z2 z3)) (x3*(a / c7 x1 x2 x3 x1 x2 x3)+y3*(b / c7 y1 y2 y3 y1 y2 y3)+z3*(c / c7 z1 z2 z3 z1 z2 z3)) o1 o2 o3
  unfold c7 at *
  refine r8 Tryz.func146 rfl Tryz.ntmps146 ?_
  intro w0 E0 hc
  repeat' (first|refine n7 hc Tryz.results146 ?_|(with_reducible first|exact trivial|refine j3 ?_ ?_|refine m8 (fun h=>?_)|refine c9 (c1s _ _ _ _ _ _ ?_) ?_ ?_|refine c9 (b3m _ _ ?_ ?_ ?_) ?_ ?_|refine c9 (a3x _ _ _ _ ?_) ?_ ?_|refine c9 (b3o _ _ _ _ _ _ ?_) ?_ ?_|refine c9 (b6i _ _ ?_ ?_) ?_ ?_|fail)|((first|exact hx|exact hy|exact hz|omega);done))
  all_goals exact Sub.refl _
end Go.Proofs
end
