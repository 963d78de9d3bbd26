/- Lemmas on the program and its library: part U13. -/
import Derived.Test.YtoiejgkkcfkliaaGreatDoorUR33
import Derived.Test.YtoiejgkkcfkliaaGreatDoorUR34
import Derived.Test.YtoiejgkkcfkliaaGreatDoorVL1
set_option linter.unusedVariables false
set_option linter.unusedSimpArgs false
section
namespace Go.Proofs
open Go.Ax
theorem d0j {v:V3} (h:a19 v=0):∃a b c:Rat,v=v3 a b c∧okV a b c:=by
  obtain ⟨x,y,z⟩:=v
  have h:u5 [a0a x,a0a y,a0a z]=0:=h
  by_cases hx:a0a x=0
  · by_cases hy:a0a y=0
    · by_cases hz:a0a z=0
      · obtain ⟨a,rfl,ha⟩:=a2l hx
        obtain ⟨b,rfl,hb⟩:=a2l hy
        obtain ⟨c,rfl,hc⟩:=a2l hz
        exact ⟨a,b,c,rfl,ha,hb,hc⟩
      · rw [hx,hy,nz0,nz0,nz1 hz] at h;exact absurd h hz
    · rw [hx,nz0,nz1 hy] at h;exact absurd h hy
  · rw [nz1 hx] at h;exact absurd h hx
theorem d3e {n:Nat} {v:V3} (h:shV n v) (hn:n≤900000):u7 v:=⟨Nat.le_trans h.1 hn,Nat.le_trans h.2.1 hn,Nat.le_trans h.2.2 hn⟩
end Go.Proofs
end
section
set_option maxHeartbeats 8000000
set_option maxRecDepth 100000
namespace Go.Proofs
open Go.Ax
abbrev tFt (t:Nat→List UInt8):AV:=tF (t 0) (t 1) (t 2) (t 3) (t 4) (t 5) (t 6) (t 7) (t 8) (t 9) (t 10) (t 11)
theorem a4q (e:Int) (he:e≠0) (t:Nat→List UInt8):Ax.Pure Tryz.prog G 66 [tF [] [] [] [] [] [] [] [] [] [] [] [],N e,N e,tFt t] (Bo true):=by
  refine r8 Tryz.func66 rfl Tryz.ntmps66 ?_
  intro w0 E0 hc
  repeat' (first|(with_reducible first|refine j0 ?_|refine zr0 hc ?_|refine zm0 hc ?_|refine zwk ?_|refine i6 ?_|refine zgo ?_|refine zbn ?_|refine zge Tryz.results66 ?_|refine Sub.refl _|refine f9|refine w6 (out':=?_) ?_|refine u9 (y:=?_) ?_|refine w5 (eo':=?_) ?_)|(with_reducible refine f6 ?_ ?_;focus (first|decide|omega))|(with_reducible first|refine zg2 ?_ ?_|refine zbo ?_|refine zg3 ?_ (fun h=>?_) (fun h=>?_)|refine zg4 (fun h=>?_) (fun h=>?_)|fail)|((first|omega|(exfalso;simp [b3i] at h;done)|(exfalso;dsimp only [bs] at h;simp at h;done)|fail);done))
  all_goals exact j6 (congrArg Bo (by simp))
theorem d56 (t:Nat→List UInt8) (c_l:Ax.Pure Tryz.prog G 192 [tFt t] (N 4)):Ax.Pure Tryz.prog G 66 [tF [] [] [] [] [] [] [] [] [] [] [] [],N 4,N 0,tFt t] (Bo true):=by
  refine r8 Tryz.func66 rfl Tryz.ntmps66 ?_
  intro w0 E0 hc
  repeat' (first|(with_reducible first|refine j0 ?_|refine zr0 hc ?_|refine zm0 hc ?_|refine zwk ?_|refine i6 ?_|refine zgo ?_|refine zbn ?_|refine zge Tryz.results66 ?_|refine Sub.refl _|refine f9|refine w6 (out':=?_) ?_|refine u9 (y:=?_) ?_|refine w5 (eo':=?_) ?_)|(with_reducible refine f6 ?_ ?_;focus (first|decide|omega))|(with_reducible first|refine zg2 ?_ ?_|refine c9 c_l ?_ ?_|refine zbo ?_|refine zg3 ?_ (fun h=>?_) (fun h=>?_)|refine zg4 (fun h=>?_) (fun h=>?_)|fail)|((first|omega|(exfalso;simp [b3i] at h;done)|(exfalso;dsimp only [bs] at h;simp at h;done)|fail);done))
  all_goals exact j6 (congrArg Bo (by simp))
theorem d0r (t:Nat→List UInt8) (c_l:Ax.Pure Tryz.prog G 192 [tFt t] (N 0)):Ax.Pure Tryz.prog G 66 [tFt t,N 0,N 0,tFt t] (Bo true):=by
  refine r8 Tryz.func66 rfl Tryz.ntmps66 ?_
  intro w0 E0 hc
  repeat' (first|(with_reducible first|refine j0 ?_|refine zr0 hc ?_|refine zm0 hc ?_|refine zwk ?_|refine i6 ?_|refine zgo ?_|refine zbn ?_|refine zge Tryz.results66 ?_|refine Sub.refl _|refine f9|refine w6 (out':=?_) ?_|refine u9 (y:=?_) ?_|refine w5 (eo':=?_) ?_)|(with_reducible refine f6 ?_ ?_;focus (first|decide|omega))|(with_reducible first|refine zg2 ?_ ?_|refine c9 c_l ?_ ?_|refine zbo ?_|refine zg3 ?_ (fun h=>?_) (fun h=>?_)|refine zg4 (fun h=>?_) (fun h=>?_)|fail)|((first|omega|(exfalso;simp [b3i] at h;done)|(exfalso;dsimp only [bs] at h;simp at h;done)|fail);done))
  all_goals exact j6 (congrArg Bo (by simp))
def okFr (f g:FuncId) (l:List AV):Prop:=∃(t u:Nat→List UInt8) (e:Int),Ax.Pure Tryz.prog G f l (.tup [tFt t,N e])∧Ax.Pure Tryz.prog G g l (tFt u)∧Ax.Pure Tryz.prog G 66 [tFt t,N e,N 0,tFt u] (Bo true)
def frT (o1 o2 o3 x1 x2 x3 y1 y2 y3 z1 z2 z3:Rat):Nat→List UInt8:=fun i=>c5 ([o1,o2,o3,x1,x2,x3,y1,y2,y3,z1,z2,z3].getD i 0)
theorem b1h {a:Int} {l:List Int} (h:u5 (a :: l)=0):a=0∧u5 l=0:=by
  by_cases ha:a=0
  · subst ha;rw [nz0] at h;exact ⟨rfl,h⟩
  · rw [nz1 ha] at h;exact absurd h ha
theorem e0a {n:Nat} {a b c d:V3}:b2q n [a,b,c,d]=true↔shV n a∧shV n b∧shV n c∧shV n d:=by simp [b2q]
theorem e04 {x1 x2 x3 y1 y2 y3 z1 z2 z3:Rat} (h:axE x1 x2 x3 y1 y2 y3 z1 z2 z3=0):c7 x1 x2 x3 x1 x2 x3≠0∧c7 y1 y2 y3 y1 y2 y3≠0∧c7 z1 z2 z3 z1 z2 z3≠0:=⟨y6 (a2t h).1,y6 (a2t h).2.1,y6 (a2t h).2.2.1⟩
def d0i (a b c d:V3):Prop:=∃o1 o2 o3 x1 x2 x3 y1 y2 y3 z1 z2 z3:Rat,a=v3 o1 o2 o3∧b=v3 x1 x2 x3∧c=v3 y1 y2 y3∧d=v3 z1 z2 z3∧okF o1 o2 o3 x1 x2 x3 y1 y2 y3 z1 z2 z3
theorem b6r (a b c d:V3):∃e,FrE a b c d e∧(e=0→d0i a b c d):=by
  by_cases h:a3e [a,b,c,d]=0
  · obtain ⟨h1,h⟩:=b1h h
    obtain ⟨h2,h⟩:=b1h h
    obtain ⟨h3,h⟩:=b1h h
    obtain ⟨h4,_⟩:=b1h h
    obtain ⟨o1,o2,o3,rfl,ho⟩:=d0j h1
    obtain ⟨x1,x2,x3,rfl,hx⟩:=d0j h2
    obtain ⟨y1,y2,y3,rfl,hy⟩:=d0j h3
    obtain ⟨z1,z2,z3,rfl,hz⟩:=d0j h4
    exact ⟨_,.inr ⟨o1,o2,o3,x1,x2,x3,y1,y2,y3,z1,z2,z3,⟨rfl,rfl,rfl,rfl⟩,⟨ho,hx,hy,hz⟩,rfl⟩,fun e=>⟨o1,o2,o3,x1,x2,x3,y1,y2,y3,z1,z2,z3,rfl,rfl,rfl,rfl,ho,hx,hy,hz,e⟩⟩
  · exact ⟨_,.inl ⟨rfl,h⟩,fun e=>absurd e h⟩
theorem d0k {o1 o2 o3 x1 x2 x3 y1 y2 y3 z1 z2 z3:Rat} (h:b6z x1 x2 x3 y1 y2 y3 z1 z2 z3):gvF o1 o2 o3 x1 x2 x3 y1 y2 y3 z1 z2 z3=if b3j o1 o2 o3 x1 x2 x3 y1 y2 y3 z1 z2 z3=true then 4 else 0:=by
  unfold gvF;unfold b6z at h;rw [if_pos h]
theorem e1n {o1 o2 o3 x1 x2 x3 y1 y2 y3 z1 z2 z3:Rat} (h:¬b6z x1 x2 x3 y1 y2 y3 z1 z2 z3):gvF o1 o2 o3 x1 x2 x3 y1 y2 y3 z1 z2 z3=15:=by
  unfold gvF;unfold b6z at h;rw [if_neg h]
theorem d0x {f g:FuncId} {l:List AV} {k:Nat} (hk:k≤1000000) {o1 o2 o3 x1 x2 x3 y1 y2 y3 z1 z2 z3:Rat} (qo:Q k o1∧Q k o2∧Q k o3) (qx:Q k x1∧Q k x2∧Q k x3) (qy:Q k y1∧Q k y2∧Q k y3) (qz:Q k z1∧Q k z2∧Q k z3) (h:b6z x1 x2 x3 y1 y2 y3 z1 z2 z3)
    (s0:gvF o1 o2 o3 x1 x2 x3 y1 y2 y3 z1 z2 z3=0→Ax.Pure Tryz.prog G f l (.tup [tF (c5 o1) (c5 o2) (c5 o3) (c5 x1) (c5 x2) (c5 x3) (c5 y1) (c5 y2) (c5 y3) (c5 z1) (c5 z2) (c5 z3),N 0])) (s1:gvF o1 o2 o3 x1 x2 x3 y1 y2 y3 z1 z2 z3≠0→Ax.Pure Tryz.prog G f l (.tup [tF [] [] [] [] [] [] [] [] [] [] [] [],N (gvF o1 o2 o3 x1 x2 x3 y1 y2 y3 z1 z2 z3)])) (r:Ax.Pure Tryz.prog G g l (tF (c5 o1) (c5 o2) (c5 o3) (c5 x1) (c5 x2) (c5 x3) (c5 y1) (c5 y2) (c5 y3) (c5 z1) (c5 z2) (c5 z3))):okFr f g l:=by
  have c_l:=b5g hk o1 o2 o3 x1 x2 x3 y1 y2 y3 z1 z2 z3 qo qx qy qz
  have hg:=d0k (o1:=o1) (o2:=o2) (o3:=o3) h
  cases hb:b3j o1 o2 o3 x1 x2 x3 y1 y2 y3 z1 z2 z3
  · rw [hb] at hg c_l
    have hg:gvF o1 o2 o3 x1 x2 x3 y1 y2 y3 z1 z2 z3=0:=hg
    exact ⟨frT o1 o2 o3 x1 x2 x3 y1 y2 y3 z1 z2 z3,frT o1 o2 o3 x1 x2 x3 y1 y2 y3 z1 z2 z3,0,s0 hg,r,d0r (frT o1 o2 o3 x1 x2 x3 y1 y2 y3 z1 z2 z3) c_l⟩
  · rw [hb] at hg c_l
    have hg:gvF o1 o2 o3 x1 x2 x3 y1 y2 y3 z1 z2 z3=4:=hg
    have s:=s1 (by rw [hg];decide)
    rw [hg] at s
    exact ⟨fun _=> [],frT o1 o2 o3 x1 x2 x3 y1 y2 y3 z1 z2 z3,4,s,r,d56 (frT o1 o2 o3 x1 x2 x3 y1 y2 y3 z1 z2 z3) c_l⟩
end Go.Proofs
end
section
namespace Go.Proofs
open Go.Ax
abbrev tu (sb tw rc u1 u2 u3 e1 e2 e3 c u e:Rat):Rat:=rc*(sb*e+tw*c+2*c7 u1 u2 u3 e1 e2 e3*u)
theorem d7l {sb tw rc:Rat} {u1 u2 u3 e1 e2 e3:Rat} (qs:Q 20000 sb) (qt:Q 2500 tw) (qr:Q 60000 rc) (qu:Q 2400 u1∧Q 2400 u2∧Q 2400 u3) (qe:Q 2400 e1∧Q 2400 e2∧Q 2400 e3):tuC (bs (c5 sb)) (bs (c5 tw)) (bs (c5 rc)) (v3 u1 u2 u3) (bs (c5 e1)) (bs (c5 e2)) (bs (c5 e3))
    (v3 (tu sb tw rc u1 u2 u3 e1 e2 e3 (u2*e3 - u3*e2) u1 e1) (tu sb tw rc u1 u2 u3 e1 e2 e3 (u3*e1 - u1*e3) u2 e2) (tu sb tw rc u1 u2 u3 e1 e2 e3 (u1*e2 - u2*e1) u3 e3)):=by
  obtain ⟨a1,a2,a3⟩:=id qu
  obtain ⟨b1,b2,b3⟩:=id qe
  have k1:=b0f (k:=20000) (by decide) sb e1 e2 e3 qs ⟨j4 b1 rfl,j4 b2 rfl,j4 b3 rfl⟩
  have k2:=d04 (k:=2400) (by decide) u1 u2 u3 e1 e2 e3 qu qe
  have x1:=j4 (K:=10000) (j9 (c6 a2 b3) (c6 a3 b2)) rfl
  have x2:=j4 (K:=10000) (j9 (c6 a3 b1) (c6 a1 b3)) rfl
  have x3:=j4 (K:=10000) (j9 (c6 a1 b2) (c6 a2 b1)) rfl
  have k3:=b0f (k:=10000) (by decide) tw _ _ _ (j4 qt rfl) ⟨x1,x2,x3⟩
  have s1:=j4 (K:=25000) (c6 qs b1) rfl
  have s2:=j4 (K:=25000) (c6 qs b2) rfl
  have s3:=j4 (K:=25000) (c6 qs b3) rfl
  have y1:=j4 (K:=25000) (c6 qt x1) rfl
  have y2:=j4 (K:=25000) (c6 qt x2) rfl
  have y3:=j4 (K:=25000) (c6 qt x3) rfl
  have k4:=b1k (k:=25000) (by decide) _ _ _ _ _ _ ⟨s1,s2,s3⟩ ⟨y1,y2,y3⟩
  have k5:=b5f (k:=2400) (by decide) u1 u2 u3 e1 e2 e3 qu qe
  have qd:=j4 (K:=20000) (a0e a1 a2 a3 b1 b2 b3) rfl
  have q2:Q 64 (2:Rat):=c1l (z:=2) (by decide) (by decide)
  have k6:=a3v 2 (c7 u1 u2 u3 e1 e2 e3) (j4 q2 rfl) qd (by decide)
  rw [←c7j] at k6
  have q4:=j4 (K:=25000) (c6 q2 qd) rfl
  have k7:=b0f (k:=25000) (by decide) _ u1 u2 u3 q4 ⟨j4 a1 rfl,j4 a2 rfl,j4 a3 rfl⟩
  have z1:=j4 (K:=60000) (f0 s1 y1) rfl
  have z2:=j4 (K:=60000) (f0 s2 y2) rfl
  have z3:=j4 (K:=60000) (f0 s3 y3) rfl
  have d1:=j4 (K:=60000) (c6 q4 a1) rfl
  have d2:=j4 (K:=60000) (c6 q4 a2) rfl
  have d3:=j4 (K:=60000) (c6 q4 a3) rfl
  have k8:=b1k (k:=60000) (by decide) _ _ _ _ _ _ ⟨z1,z2,z3⟩ ⟨d1,d2,d3⟩
  have k9:=b0f (k:=200000) (by decide) rc _ _ _ (j4 qr rfl) ⟨j4 (f0 z1 d1) rfl,j4 (f0 z2 d2) rfl,j4 (f0 z3 d3) rfl⟩
  exact ⟨v3 _ _ _,v3 _ _ _,v3 _ _ _,v3 _ _ _,v3 _ _ _,v3 _ _ _,_,_,k1,k2,k3,k4,k5,k6,k7,k8,k9⟩
abbrev I0:Rat:=((0:Int):Rat)
abbrev I1:Rat:=((1:Int):Rat)
theorem e1r (w u1 u2 u3:Rat) (qw:Q 2400 w) (qu:Q 2400 u1∧Q 2400 u2∧Q 2400 u3) (h0:w*w+c7 u1 u2 u3 u1 u2 u3≠0) {x1 x2 x3 y1 y2 y3 z1 z2 z3:Rat}
    (hx1:x1=tu (w*w - c7 u1 u2 u3 u1 u2 u3) (2*w) (w*w+c7 u1 u2 u3 u1 u2 u3)⁻¹ u1 u2 u3 I1 I0 I0 (u2*I0 - u3*I0) u1 I1) (hx2:x2=tu (w*w - c7 u1 u2 u3 u1 u2 u3) (2*w) (w*w+c7 u1 u2 u3 u1 u2 u3)⁻¹ u1 u2 u3 I1 I0 I0 (u3*I1 - u1*I0) u2 I0) (hx3:x3=tu (w*w - c7 u1 u2 u3 u1 u2 u3) (2*w) (w*w+c7 u1 u2 u3 u1 u2 u3)⁻¹ u1 u2 u3 I1 I0 I0 (u1*I0 - u2*I1) u3 I0)
    (hy1:y1=tu (w*w - c7 u1 u2 u3 u1 u2 u3) (2*w) (w*w+c7 u1 u2 u3 u1 u2 u3)⁻¹ u1 u2 u3 I0 I1 I0 (u2*I0 - u3*I1) u1 I0) (hy2:y2=tu (w*w - c7 u1 u2 u3 u1 u2 u3) (2*w) (w*w+c7 u1 u2 u3 u1 u2 u3)⁻¹ u1 u2 u3 I0 I1 I0 (u3*I0 - u1*I0) u2 I1) (hy3:y3=tu (w*w - c7 u1 u2 u3 u1 u2 u3) (2*w) (w*w+c7 u1 u2 u3 u1 u2 u3)⁻¹ u1 u2 u3 I0 I1 I0 (u1*I1 - u2*I0) u3 I0)
    (hz1:z1=tu (w*w - c7 u1 u2 u3 u1 u2 u3) (2*w) (w*w+c7 u1 u2 u3 u1 u2 u3)⁻¹ u1 u2 u3 I0 I0 I1 (u2*I1 - u3*I0) u1 I0) (hz2:z2=tu (w*w - c7 u1 u2 u3 u1 u2 u3) (2*w) (w*w+c7 u1 u2 u3 u1 u2 u3)⁻¹ u1 u2 u3 I0 I0 I1 (u3*I0 - u1*I1) u2 I0) (hz3:z3=tu (w*w - c7 u1 u2 u3 u1 u2 u3) (2*w) (w*w+c7 u1 u2 u3 u1 u2 u3)⁻¹ u1 u2 u3 I0 I0 I1 (u1*I0 - u2*I0) u3 I1) :
    Ax.Pure Tryz.prog G 65 [.agg [.v (.string (bs (c5 w))),.v (.string (bs (c5 u1))),.v (.string (bs (c5 u2))),.v (.string (bs (c5 u3)))]] (txF (v3 0 0 0) (v3 x1 x2 x3) (v3 y1 y2 y3) (v3 z1 z2 z3)):=by
  subst hx1 hx2 hx3 hy1 hy2 hy3 hz1 hz2 hz3
  have qww:=j4 (K:=9000) (c6 qw qw) rfl
  have qd:=j4 (K:=15000) (a0e qu.1 qu.2.1 qu.2.2 qu.1 qu.2.1 qu.2.2) rfl
  have q2:Q 64 (2:Rat):=c1l (z:=2) (by decide) (by decide)
  have c_ww:=a3v w w qw qw (by decide)
  have c_uu:=b5i (k:=2400) (by decide) u1 u2 u3 qu
  have c_nm:=b32 _ _ (j4 (K:=15000) qww rfl) qd (by decide)
  have c_sb:=b72 _ _ (j4 (K:=15000) qww rfl) qd (by decide)
  have c_tw:=a3v 2 w (j4 (K:=2400) q2 rfl) qw (by decide)
  rw [←c7j] at c_tw
  have qn:=j4 (K:=60000) (f0 qww qd) rfl
  have c_rc:=b5h _ h0 qn (by decide)
  have c_or:=b92
  rw [a3n] at c_or
  have qi0:Q 2400 I0:=j4 a9t rfl
  have qi1:Q 2400 I1:=j4 b7r rfl
  have t0:(⟨#[48]⟩:ByteArray)=bs (c5 I0):=b7o
  have t1:(⟨#[49]⟩:ByteArray)=bs (c5 I1):=d6h
  have qs:=j4 (K:=20000) (j9 (j4 (K:=4900) (c6 qw qw) rfl) (j4 (K:=15000) qd rfl)) rfl
  have qt:=j4 (K:=2500) (c6 q2 qw) rfl
  have qr:=a25 qn
  have a0:=d7l qs qt qr qu ⟨qi1,qi0,qi0⟩
  have a1:=d7l qs qt qr qu ⟨qi0,qi1,qi0⟩
  have a2:=d7l qs qt qr qu ⟨qi0,qi0,qi1⟩
  rw [←t0,←t1] at a0 a1 a2
  have h:=d2v (c5 w) (v3 u1 u2 u3) (fun i=> [_,_,_].getD i ([],[],[])) _ _ _ _ _ _ c_ww c_uu c_nm c_sb c_tw c_rc c_or a0 a1 a2
  rw [show v3 0 0 0=([48],[48],[48]) by rw [v3,a3n]]
  exact h
end Go.Proofs
end
section
set_option maxHeartbeats 8000000
set_option maxRecDepth 100000
namespace Go.Proofs
open Go.Ax
def okFs (f g:FuncId) (l:List AV):Prop:=∃(t u:Nat→List UInt8) (e w:Int),Ax.Pure Tryz.prog G f l (.tup [tFt t,N e])∧Ax.Pure Tryz.prog G g l (tFt u)∧Ax.Pure Tryz.prog G 68 [tFt u] (N w)∧Ax.Pure Tryz.prog G 66 [tFt t,N e,N w,tFt u] (Bo true)
theorem d0y {f g:FuncId} {l:List AV} {k:Nat} (hk:k≤40000) {o1 o2 o3 x1 x2 x3 y1 y2 y3 z1 z2 z3:Rat} (qo:Q 900000 o1∧Q 900000 o2∧Q 900000 o3) (qx:Q k x1∧Q k x2∧Q k x3) (qy:Q k y1∧Q k y2∧Q k y3) (qz:Q k z1∧Q k z2∧Q k z3) (hd:0 < a94 x1 x2 x3 y1 y2 y3 z1 z2 z3)
    (s0:gvF o1 o2 o3 x1 x2 x3 y1 y2 y3 z1 z2 z3=0→Ax.Pure Tryz.prog G f l (.tup [tF (c5 o1) (c5 o2) (c5 o3) (c5 x1) (c5 x2) (c5 x3) (c5 y1) (c5 y2) (c5 y3) (c5 z1) (c5 z2) (c5 z3),N 0])) (s1:gvF o1 o2 o3 x1 x2 x3 y1 y2 y3 z1 z2 z3≠0→Ax.Pure Tryz.prog G f l (.tup [tF [] [] [] [] [] [] [] [] [] [] [] [],N (gvF o1 o2 o3 x1 x2 x3 y1 y2 y3 z1 z2 z3)])) (r:Ax.Pure Tryz.prog G g l (tF (c5 o1) (c5 o2) (c5 o3) (c5 x1) (c5 x2) (c5 x3) (c5 y1) (c5 y2) (c5 y3) (c5 z1) (c5 z2) (c5 z3))):okFs f g l:=by
  have c_s:=d06 hk o1 o2 o3 x1 x2 x3 y1 y2 y3 z1 z2 z3 qx qy qz
  have m:∀{q:Rat},Q k q→Q 900000 q:=fun h=>a07 h (by omega)
  by_cases h:b6z x1 x2 x3 y1 y2 y3 z1 z2 z3
  · unfold b6z at h
    rw [if_pos ⟨h,hd⟩] at c_s
    obtain ⟨t,u,e,h1,h2,h3⟩:=d0x (k:=900000) (by decide) qo ⟨m qx.1,m qx.2.1,m qx.2.2⟩ ⟨m qy.1,m qy.2.1,m qy.2.2⟩ ⟨m qz.1,m qz.2.1,m qz.2.2⟩ h s0 s1 r
    have c_l:=b5g (k:=900000) (by decide) o1 o2 o3 x1 x2 x3 y1 y2 y3 z1 z2 z3 qo ⟨m qx.1,m qx.2.1,m qx.2.2⟩ ⟨m qy.1,m qy.2.1,m qy.2.2⟩ ⟨m qz.1,m qz.2.1,m qz.2.2⟩
    have hg:=d0k (o1:=o1) (o2:=o2) (o3:=o3) h
    cases hb:b3j o1 o2 o3 x1 x2 x3 y1 y2 y3 z1 z2 z3
    · rw [hb] at hg c_l
      have hg:gvF o1 o2 o3 x1 x2 x3 y1 y2 y3 z1 z2 z3=0:=hg
      exact ⟨frT o1 o2 o3 x1 x2 x3 y1 y2 y3 z1 z2 z3,frT o1 o2 o3 x1 x2 x3 y1 y2 y3 z1 z2 z3,0,0,s0 hg,r,c_s,d0r (frT o1 o2 o3 x1 x2 x3 y1 y2 y3 z1 z2 z3) c_l⟩
    · rw [hb] at hg c_l
      have hg:gvF o1 o2 o3 x1 x2 x3 y1 y2 y3 z1 z2 z3=4:=hg
      have s:=s1 (by rw [hg];decide)
      rw [hg] at s
      exact ⟨fun _=> [],frT o1 o2 o3 x1 x2 x3 y1 y2 y3 z1 z2 z3,4,0,s,r,c_s,d56 (frT o1 o2 o3 x1 x2 x3 y1 y2 y3 z1 z2 z3) c_l⟩
  · have hg:=e1n (o1:=o1) (o2:=o2) (o3:=o3) h
    unfold b6z at h
    rw [if_neg fun k=>h k.1] at c_s
    have s:=s1 (by rw [hg];decide)
    rw [hg] at s
    exact ⟨fun _=> [],frT o1 o2 o3 x1 x2 x3 y1 y2 y3 z1 z2 z3,15,15,s,r,c_s,a4q 15 (by decide) _⟩
theorem b0p (a b c x y z:Rat):a*x+b*y+c*z=x*a+y*b+z*c:=by grind
theorem d5u (x1 x2 x3 y1 y2 y3 z1 z2 z3 a1 a2 a3 b1 b2 b3 c1 c2 c3:Rat):a94 (x1*a1+y1*a2+z1*a3) (x2*a1+y2*a2+z2*a3) (x3*a1+y3*a2+z3*a3) (x1*b1+y1*b2+z1*b3) (x2*b1+y2*b2+z2*b3) (x3*b1+y3*b2+z3*b3) (x1*c1+y1*c2+z1*c3) (x2*c1+y2*c2+z2*c3) (x3*c1+y3*c2+z3*c3)=a94 x1 x2 x3 y1 y2 y3 z1 z2 z3*a94 a1 a2 a3 b1 b2 b3 c1 c2 c3:=by
  unfold a94;grind
theorem d8h (x1 x2 x3 y1 y2 y3 z1 z2 z3 a b c:Rat):a94 (x1 / a) (y1 / b) (z1 / c) (x2 / a) (y2 / b) (z2 / c) (x3 / a) (y3 / b) (z3 / c)=a94 x1 x2 x3 y1 y2 y3 z1 z2 z3*(a⁻¹*b⁻¹*c⁻¹):=by
  unfold a94;grind
theorem c8d {a b c:Rat} (h:c7 a b c a b c≠0):0 < (c7 a b c a b c)⁻¹:=by
  have h1:=a7x a
  have h2:=a7x b
  have h3:=a7x c
  have:0 < c7 a b c a b c:=by unfold c7 at h ⊢;grind
  exact Rat.inv_pos.2 this
theorem c8a (a b c:Rat):c7 I1 I0 I0 a b c=a:=by show 1*a+0*b+0*c=a;grind
theorem c8b (a b c:Rat):c7 I0 I1 I0 a b c=b:=by show 0*a+1*b+0*c=b;grind
theorem c8c (a b c:Rat):c7 I0 I0 I1 a b c=c:=by show 0*a+0*b+1*c=c;grind
theorem b0a (p1 p2 p3 o1 o2 o3 x1 x2 x3 n:Rat):c7 (p1 - o1) (p2 - o2) (p3 - o3) x1 x2 x3 / n - c7 (0 - o1) (0 - o2) (0 - o3) x1 x2 x3 / n=c7 p1 p2 p3 x1 x2 x3 / n:=by unfold c7;grind
theorem b30 {a b c d a' b' c' d':V3} (hF:d0i a b c d) (hG:d0i a' b' c' d'):okFs 60 69 [txF a b c d,txF a' b' c' d']:=by
  obtain ⟨o1,o2,o3,x1,x2,x3,y1,y2,y3,z1,z2,z3,rfl,rfl,rfl,rfl,hF⟩:=hF
  obtain ⟨p1,p2,p3,a1,a2,a3,b1,b2,b3,c1,c2,c3,rfl,rfl,rfl,rfl,hG⟩:=hG
  obtain ⟨ho,hx,hy,hz,hE⟩:=id hF
  obtain ⟨hp,ha,hb,hc,hE'⟩:=id hG
  have qo:=s9 ho
  have qx:=s9 hx
  have qy:=s9 hy
  have qz:=s9 hz
  have qp:=s9 hp
  have qa:=s9 ha
  have qb:=s9 hb
  have qc:=s9 hc
  have r:=d2r (k:=2400) (by decide) o1 o2 o3 x1 x2 x3 y1 y2 y3 z1 z2 z3 p1 p2 p3 a1 a2 a3 b1 b2 b3 c1 c2 c3 qo qx qy qz qp qa qb qc
  rw [b0p p1 p2 p3 x1 y1 z1,b0p p1 p2 p3 x2 y2 z2,b0p p1 p2 p3 x3 y3 z3,b0p a1 a2 a3 x1 y1 z1,b0p a1 a2 a3 x2 y2 z2,b0p a1 a2 a3 x3 y3 z3,b0p b1 b2 b3 x1 y1 z1,b0p b1 b2 b3 x2 y2 z2,b0p b1 b2 b3 x3 y3 z3,b0p c1 c2 c3 x1 y1 z1,b0p c1 c2 c3 x2 y2 z2,b0p c1 c2 c3 x3 y3 z3] at r
  have q:∀{a b c x y z:Rat},Q 2400 a→Q 2400 b→Q 2400 c→Q 2400 x→Q 2400 y→Q 2400 z→Q 20000 (x*a+y*b+z*c):=fun h1 h2 h3 h4 h5 h6=>j4 (f0 (f0 (c6 h4 h1) (c6 h5 h2)) (c6 h6 h3)) rfl
  exact d0y (k:=20000) (by decide) ⟨j4 (f0 qo.1 (q qp.1 qp.2.1 qp.2.2 qx.1 qy.1 qz.1)) rfl,j4 (f0 qo.2.1 (q qp.1 qp.2.1 qp.2.2 qx.2.1 qy.2.1 qz.2.1)) rfl,j4 (f0 qo.2.2 (q qp.1 qp.2.1 qp.2.2 qx.2.2 qy.2.2 qz.2.2)) rfl⟩
    ⟨q qa.1 qa.2.1 qa.2.2 qx.1 qy.1 qz.1,q qa.1 qa.2.1 qa.2.2 qx.2.1 qy.2.1 qz.2.1,q qa.1 qa.2.1 qa.2.2 qx.2.2 qy.2.2 qz.2.2⟩
    ⟨q qb.1 qb.2.1 qb.2.2 qx.1 qy.1 qz.1,q qb.1 qb.2.1 qb.2.2 qx.2.1 qy.2.1 qz.2.1,q qb.1 qb.2.1 qb.2.2 qx.2.2 qy.2.2 qz.2.2⟩
    ⟨q qc.1 qc.2.1 qc.2.2 qx.1 qy.1 qz.1,q qc.1 qc.2.1 qc.2.2 qx.2.1 qy.2.1 qz.2.1,q qc.1 qc.2.1 qc.2.2 qx.2.2 qy.2.2 qz.2.2⟩
    (by rw [d5u];exact Rat.mul_pos (a2t hE).2.2.2.2 (a2t hE').2.2.2.2)
    (c2f o1 o2 o3 x1 x2 x3 y1 y2 y3 z1 z2 z3 hF p1 p2 p3 a1 a2 a3 b1 b2 b3 c1 c2 c3 hG) (c4o o1 o2 o3 x1 x2 x3 y1 y2 y3 z1 z2 z3 hF p1 p2 p3 a1 a2 a3 b1 b2 b3 c1 c2 c3 hG) r
theorem b31 {a b c d:V3} (hF:d0i a b c d):okFs 61 67 [txF a b c d]:=by
  obtain ⟨o1,o2,o3,x1,x2,x3,y1,y2,y3,z1,z2,z3,rfl,rfl,rfl,rfl,hF⟩:=hF
  obtain ⟨ho,hx,hy,hz,hE⟩:=id hF
  have qo:=s9 ho
  have qx:=s9 hx
  have qy:=s9 hy
  have qz:=s9 hz
  obtain ⟨nx,ny,nz⟩:=e04 hE
  have r:=c4h o1 o2 o3 x1 x2 x3 y1 y2 y3 z1 z2 z3 nx ny nz qo qx qy qz rfl rfl rfl (b0a I1 I0 I0 o1 o2 o3 x1 x2 x3 _) (b0a I1 I0 I0 o1 o2 o3 y1 y2 y3 _) (b0a I1 I0 I0 o1 o2 o3 z1 z2 z3 _) (b0a I0 I1 I0 o1 o2 o3 x1 x2 x3 _) (b0a I0 I1 I0 o1 o2 o3 y1 y2 y3 _) (b0a I0 I1 I0 o1 o2 o3 z1 z2 z3 _) (b0a I0 I0 I1 o1 o2 o3 x1 x2 x3 _) (b0a I0 I0 I1 o1 o2 o3 y1 y2 y3 _) (b0a I0 I0 I1 o1 o2 o3 z1 z2 z3 _)
  have q0:Q 2400 I0:=j4 a9t rfl
  have q1:Q 2400 I1:=j4 b7r rfl
  have q:∀{e f g x y z:Rat},Q 2400 e→Q 2400 f→Q 2400 g→Q 2400 x∧Q 2400 y∧Q 2400 z→Q 30000 (c7 e f g x y z / c7 x y z x y z):=fun h1 h2 h3 h=>j4 (a0b (a0e h1 h2 h3 h.1 h.2.1 h.2.2) (a0e h.1 h.2.1 h.2.2 h.1 h.2.1 h.2.2)) rfl
  have q':∀{x y z:Rat},Q 2400 x∧Q 2400 y∧Q 2400 z→Q 900000 (c7 (I0 - o1) (I0 - o2) (I0 - o3) x y z / c7 x y z x y z):=fun h=>j4 (a0b (a0e (j9 q0 qo.1) (j9 q0 qo.2.1) (j9 q0 qo.2.2) (j4 (K:=4801) h.1 rfl) (j4 h.2.1 rfl) (j4 h.2.2 rfl)) (a0e h.1 h.2.1 h.2.2 h.1 h.2.1 h.2.2)) rfl
  exact d0y (k:=30000) (by decide) ⟨q' qx,q' qy,q' qz⟩ ⟨q q1 q0 q0 qx,q q1 q0 q0 qy,q q1 q0 q0 qz⟩ ⟨q q0 q1 q0 qx,q q0 q1 q0 qy,q q0 q1 q0 qz⟩ ⟨q q0 q0 q1 qx,q q0 q0 q1 qy,q q0 q0 q1 qz⟩
    (by rw [c8a,c8a,c8a,c8b,c8b,c8b,c8c,c8c,c8c,d8h];exact Rat.mul_pos (a2t hE).2.2.2.2 (Rat.mul_pos (Rat.mul_pos (c8d nx) (c8d ny)) (c8d nz)))
    (d2y o1 o2 o3 x1 x2 x3 y1 y2 y3 z1 z2 z3 hF) (c4q o1 o2 o3 x1 x2 x3 y1 y2 y3 z1 z2 z3 hF) r
end Go.Proofs
end
section
set_option maxHeartbeats 8000000
set_option maxRecDepth 100000
namespace Go.Proofs
open Go.Ax
theorem tu_eq (e s c w' u d r:Rat):(e*s+c*(((2:Int):Rat)*w')+u*(((2:Int):Rat)*d))*r=r*(s*e+2*w'*c+2*d*u):=by show (e*s+c*(2*w')+u*(2*d))*r=_;grind
theorem d3n (w u1 u2 u3 r:Rat):b6z (tu (w*w - c7 u1 u2 u3 u1 u2 u3) (2*w) r u1 u2 u3 1 0 0 (u2*0 - u3*0) u1 1) (tu (w*w - c7 u1 u2 u3 u1 u2 u3) (2*w) r u1 u2 u3 1 0 0 (u3*1 - u1*0) u2 0) (tu (w*w - c7 u1 u2 u3 u1 u2 u3) (2*w) r u1 u2 u3 1 0 0 (u1*0 - u2*1) u3 0) (tu (w*w - c7 u1 u2 u3 u1 u2 u3) (2*w) r u1 u2 u3 0 1 0 (u2*0 - u3*1) u1 0) (tu (w*w - c7 u1 u2 u3 u1 u2 u3) (2*w) r u1 u2 u3 0 1 0 (u3*0 - u1*0) u2 1) (tu (w*w - c7 u1 u2 u3 u1 u2 u3) (2*w) r u1 u2 u3 0 1 0 (u1*1 - u2*0) u3 0) (tu (w*w - c7 u1 u2 u3 u1 u2 u3) (2*w) r u1 u2 u3 0 0 1 (u2*1 - u3*0) u1 0) (tu (w*w - c7 u1 u2 u3 u1 u2 u3) (2*w) r u1 u2 u3 0 0 1 (u3*0 - u1*1) u2 0) (tu (w*w - c7 u1 u2 u3 u1 u2 u3) (2*w) r u1 u2 u3 0 0 1 (u1*0 - u2*0) u3 1):=by
  unfold b6z tu c7
  refine ⟨?_,?_,?_⟩<;> grind
theorem nm_ne {w u1 u2 u3:Rat} (h:¬(w=0∧u1=0∧u2=0∧u3=0)):w*w+c7 u1 u2 u3 u1 u2 u3≠0:=fun e=>by
  have h0:=a7x w
  have h1:=a7x u1
  have h2:=a7x u2
  have h3:=a7x u3
  have hz:∀{a:Rat},a*a=0→a=0:=fun h=>by grind
  unfold c7 at e
  exact h ⟨hz (by grind),hz (by grind),hz (by grind),hz (by grind)⟩
theorem d81 {w u1 u2 u3:Rat} (hw:y4 w=false) (hu:okV u1 u2 u3) (hq:¬(w=0∧u1=0∧u2=0∧u3=0)):okFr 62 65 [.agg [.v (.string (bs (c5 w))),.v (.string (bs (c5 u1))),.v (.string (bs (c5 u2))),.v (.string (bs (c5 u3)))]]:=by
  have s0:=d61 w u1 u2 u3 hw hu hq
  have s1:=d3a w u1 u2 u3 hw hu hq
  simp only [tu_eq] at s0 s1
  have qw:=a0z hw
  have qu:=s9 hu
  have r:=e1r w u1 u2 u3 qw qu (nm_ne hq) rfl rfl rfl rfl rfl rfl rfl rfl rfl
  have q0:Q 2400 I0:=j4 a9t rfl
  have q1:Q 2400 I1:=j4 b7r rfl
  have q2:Q 64 (2:Rat):=c1l (z:=2) (by decide) (by decide)
  have qd:=a0e qu.1 qu.2.1 qu.2.2 qu.1 qu.2.1 qu.2.2
  have qs:=j9 (c6 qw qw) qd
  have qr:=a25 (f0 (c6 qw qw) qd)
  have q:∀{c u d e:Rat},Q 10000 c→Q 2400 u→Q 20000 d→Q 2400 e→Q 100000 ((w*w+c7 u1 u2 u3 u1 u2 u3)⁻¹*((w*w - c7 u1 u2 u3 u1 u2 u3)*e+2*w*c+2*d*u)):=fun h1 h2 h3 h4=>j4 (c6 qr (f0 (f0 (c6 qs h4) (c6 (c6 q2 qw) h1)) (c6 (c6 q2 h3) h2))) rfl
  have c:∀{a b x y:Rat},Q 2400 a→Q 2400 b→Q 2400 x→Q 2400 y→Q 10000 (a*x - b*y):=fun h1 h2 h3 h4=>j4 (j9 (c6 h1 h3) (c6 h2 h4)) rfl
  have d:∀{x y z:Rat},Q 2400 x→Q 2400 y→Q 2400 z→Q 20000 (c7 u1 u2 u3 x y z):=fun h1 h2 h3=>j4 (a0e qu.1 qu.2.1 qu.2.2 h1 h2 h3) rfl
  obtain ⟨qa,qb,qc⟩:=qu
  exact d0x (k:=100000) (by decide) ⟨j4 q0 rfl,j4 q0 rfl,j4 q0 rfl⟩ ⟨q (c qb qc q0 q0) qa (d q1 q0 q0) q1,q (c qc qa q1 q0) qb (d q1 q0 q0) q0,q (c qa qb q0 q1) qc (d q1 q0 q0) q0⟩
    ⟨q (c qb qc q0 q1) qa (d q0 q1 q0) q0,q (c qc qa q0 q0) qb (d q0 q1 q0) q1,q (c qa qb q1 q0) qc (d q0 q1 q0) q0⟩ ⟨q (c qb qc q1 q0) qa (d q0 q0 q1) q0,q (c qc qa q0 q1) qb (d q0 q0 q1) q0,q (c qa qb q0 q0) qc (d q0 q0 q1) q1⟩
    (d3n w u1 u2 u3 _) s0 s1 r
end Go.Proofs
end
section
namespace Go.Proofs
open Go.Ax
abbrev txQ (p q r s:List UInt8):AV:=.agg [.v (.string (bs p)),.v (.string (bs q)),.v (.string (bs r)),.v (.string (bs s))]
theorem b1l (a b c d:List UInt8) (ha:a.length≤900000) (hb:b.length≤900000) (hc:c.length≤900000) (hd:d.length≤900000):Ax.Pure Tryz.prog G 63 [.one (.row 1 4 (fun i=> [[i7.v (.string (bs a))],[i7.v (.string (bs b))],[i7.v (.string (bs c))],[i7.v (.string (bs d))]].getD i []))] (N (a1e [a,b,c,d])):=
  w8 (b90 [a,b,c,d] 4 rfl (mem4 ha hb hc hd) (show 4≤1000000 by decide)) ⟨a1t (b5k rfl rfl rfl rfl),trivial⟩ ⟨trivial,trivial⟩
theorem zz48:((bs [48]).toList == (⟨#[48]⟩:ByteArray).toList)=true:=b3i [48]
theorem e2d (b:Bool) (h:b=true):Ax.Pure Tryz.prog G 64 [Bo b,N 6] (N 6):=by subst h;exact d58 true 6
theorem e2c (b:Bool) (h:b=false):Ax.Pure Tryz.prog G 64 [Bo b,N 6] (N 0):=by subst h;exact d58 false 6
end Go.Proofs
end
