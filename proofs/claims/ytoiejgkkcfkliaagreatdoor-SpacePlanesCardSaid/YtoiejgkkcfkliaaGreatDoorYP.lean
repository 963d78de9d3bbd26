/- Lemmas on the program and its library: part YP. -/
import Derived.Test.YtoiejgkkcfkliaaGreatDoorYNP
import Derived.Test.YtoiejgkkcfkliaaGreatDoorYWCP
set_option linter.unusedVariables false
set_option linter.unusedSimpArgs false
section
set_option maxHeartbeats 4000000
set_option maxRecDepth 100000
namespace Go.Proofs
open Go.Ax
theorem a0z (a b c:Rat) (h:rz a≤1000000000∧rz b≤1000000000∧rz c≤1000000000):Ax.Pure Tryz.prog G 231 [vA a b c] (vA (-a) (-b) (-c)):=by
  refine zen Tryz.func231 rfl Tryz.ntmps231 ?_
  intro w0 E0 hc
  repeat' (first|refine zR1 hc Tryz.results231 ?_|(with_reducible first|exact trivial|refine zan ?_ ?_|refine zim (fun h=>?_)|refine zoc (c_FNeg _ ?_) ?_ ?_|fail)|(omega;done))
end Go.Proofs
end
section
set_option maxHeartbeats 4000000
set_option maxRecDepth 100000
namespace Go.Proofs
open Go.Ax
theorem y6 (a b c d:Rat) (hb:rz a≤100000000∧rz b≤100000000∧rz c≤100000000∧rz d≤100000000):Ax.Pure Tryz.prog G 162 [hA a b c d] (hA (-a) (-b) (-c) (-d)):=by
  refine zen Tryz.func162 rfl Tryz.ntmps162 ?_
  intro w0 E0 hc
  repeat' (first|refine zR1 hc Tryz.results162 ?_|(with_reducible first|exact trivial|refine zan ?_ ?_|refine zim (fun h=>?_)|refine zoc (a0z _ _ _ ?_) ?_ ?_|refine zoc (c_FNeg _ ?_) ?_ ?_|fail)|(omega;done))
end Go.Proofs
end
section
set_option maxHeartbeats 4000000
set_option maxRecDepth 100000
namespace Go.Proofs
open Go.Ax
theorem a0s (x y z:Int):dnm (x:Rat) (y:Rat) (z:Rat) 3=1:=by
  show lc (lc (lc 1 (x:Rat).den) (y:Rat).den) (z:Rat).den=1
  rw [Rat.den_intCast,Rat.den_intCast,Rat.den_intCast];rfl
theorem u6 (x:Int):nmr (x:Rat) 1=x.natAbs:=by
  unfold nmr
  rw [show ((1:Nat):Rat)=1 from rfl,Rat.mul_one,Rat.num_intCast]
theorem a0h {x y z:Int} (h:gcdN x y z 3=1):nrm (x:Rat) (y:Rat) (z:Rat)=1:=by
  have e:cmn (x:Rat) (y:Rat) (z:Rat) 1 3=gcdN x y z 3:=by
    show Nat.gcd (Nat.gcd (Nat.gcd 0 (nmr x 1)) (nmr y 1)) (nmr z 1)=_
    rw [u6,u6,u6];rfl
  unfold nrm
  rw [a0s,e,h,show ((1:Nat):Rat)=1 from rfl,Rat.div_def,Rat.one_mul]
  exact Rat.inv_eq_of_mul_eq_one (Rat.one_mul 1)
theorem a0q (x y z:Int):gcdN (-x) (-y) (-z) 3=gcdN x y z 3:=by
  show Nat.gcd (Nat.gcd (Nat.gcd 0 (-x).natAbs) (-y).natAbs) (-z).natAbs=_
  rw [Int.natAbs_neg,Int.natAbs_neg,Int.natAbs_neg];rfl
theorem y5 (q:Rat):bigQ (-q)=bigQ q:=by
  unfold bigQ bigZ
  rw [Rat.neg_num,Rat.neg_den,Int.natAbs_neg]
theorem a0u {x y z:Int} {d:Rat} (h:okH x y z d):hOk (x:Rat) (y:Rat) (z:Rat) d:=by
  unfold hOk
  rw [a0h h.2.1,Rat.mul_one,Rat.mul_one,Rat.mul_one,Rat.mul_one,Rat.num_intCast,Rat.num_intCast,Rat.num_intCast]
  exact ⟨h.1,h.2.2⟩
theorem a03 {x y z:Int} {d:Rat} (h:okH x y z d):hT (x:Rat) (y:Rat) (z:Rat) d=tH x y z (ratL d):=by
  unfold hT
  rw [a0h h.2.1,Rat.mul_one,Rat.mul_one,Rat.mul_one,Rat.mul_one,Rat.num_intCast,Rat.num_intCast,Rat.num_intCast]
theorem a0g {x y z:Int} {d:Rat} (h:okH x y z d):okH (-x) (-y) (-z) (-d):=by
  obtain ⟨⟨⟨x1,x2⟩,⟨y1,y2⟩,⟨z1,z2⟩⟩,hg,hd⟩:=h
  exact ⟨⟨⟨by omega,by omega⟩,⟨by omega,by omega⟩,⟨by omega,by omega⟩⟩,by rw [a0q];exact hg,by rw [y5];exact hd⟩
theorem a0b (x y z:Int) (w:Rat) (hh:okH x y z w):Ax.Pure Tryz.prog G 41 [tH x y z (ratL w)] (.tup [tH (-x) (-y) (-z) (ratL (-w)),N 0]):=by
  have qx:=okI_Q hh.1.1
  have qy:=okI_Q hh.1.2.1
  have qz:=okI_Q hh.1.2.2
  have qw:=bigQ_Q hh.2.2
  have c_c:=s_chkH hh
  have c_h:=s_FromHalf hh
  have c_o:=y6 x y z w ⟨rz_of qx rfl,rz_of qy rfl,rz_of qz rfl,rz_of qw rfl⟩
  have hn:=a0g hh
  have c_g:=c_giveH (k:=2400) (by decide) ((-x:Int):Rat) ((-y:Int):Rat) ((-z:Int):Rat) (-w) (okH_ne hn) (okI_Q hn.1.1) (okI_Q hn.1.2.1) (okI_Q hn.1.2.2) (Q_neg qw) (a0u hn)
  rw [a03 hn,Rat.intCast_neg,Rat.intCast_neg,Rat.intCast_neg] at c_g
  refine zen Tryz.func41 rfl Tryz.ntmps41 ?_
  intro w0 E0 hc
  repeat' (first|refine zR1 hc Tryz.results41 ?_|(with_reducible first|exact trivial|refine zan ?_ ?_|refine zim (fun h=>?_)|refine zoc c_c ?_ ?_|refine zoc c_h ?_ ?_|refine zoc c_o ?_ ?_|refine zoc c_g ?_ ?_|fail)|((first|omega|exact absurd rfl (by assumption)|(refine nf1 ?_;assumption)|(refine nf2 ?_;assumption));done))
end Go.Proofs
end
section
namespace Go.Proofs
open Go.Ax
theorem u7 {x:Rat} {D C:Nat} (h:x.den∣D) (hc:C∣nmr x D) (hC:0 < C):nmr x D=C*(x*((D:Rat) / (C:Rat))).num.natAbs:=by
  have h1:=a2g h hc hC
  have hC':((C:Nat):Rat)≠0:=fun e=>by rw [a14] at e;omega
  have e:x*(D:Rat)=(((C:Int)*(x*((D:Rat) / (C:Rat))).num:Int):Rat):=by
    rw [Rat.intCast_mul,←h1]
    show x*(D:Rat)=(C:Rat)*(x*((D:Rat) / (C:Rat)))
    grind
  unfold nmr
  rw [e,Rat.num_intCast,Int.natAbs_mul,Int.natAbs_natCast]
theorem w6 {a b c:Rat} (h0:¬(a=0∧b=0∧c=0)):0 < nrm a b c∧(a*nrm a b c=(((a*nrm a b c).num:Int):Rat)∧b*nrm a b c=(((b*nrm a b c).num:Int):Rat)∧c*nrm a b c=(((c*nrm a b c).num:Int):Rat))∧gcdN (a*nrm a b c).num (b*nrm a b c).num (c*nrm a b c).num 3=1:=by
  have hD:=dnm_pos a b c 3
  obtain ⟨da,db,dc⟩:=a4g a b c
  obtain ⟨ea,eb,ec⟩:=a4j a b c (dnm a b c 3)
  have hC:=cmn_pos hD h0
  have ha:=a2g da ea hC
  have hb:=a2g db eb hC
  have hc:=a2g dc ec hC
  have na:=u7 da ea hC
  have nb:=u7 db eb hC
  have nc:=u7 dc ec hC
  have hg:cmn a b c (dnm a b c 3) 3=Nat.gcd (Nat.gcd (nmr a (dnm a b c 3)) (nmr b (dnm a b c 3))) (nmr c (dnm a b c 3)):=by
    show Nat.gcd (Nat.gcd (Nat.gcd 0 _) _) _=_
    rw [Nat.gcd_zero_left]
  have hn:nrm a b c=((dnm a b c 3:Nat):Rat) / ((cmn a b c (dnm a b c 3) 3:Nat):Rat):=rfl
  rw [←hn] at ha hb hc na nb nc
  have hp:0 < nrm a b c:=by
    rw [hn]
    rw [Rat.div_def];exact Rat.mul_pos (Rat.natCast_pos.2 hD) (Rat.inv_pos.2 (Rat.natCast_pos.2 hC))
  refine ⟨hp,⟨ha,hb,hc⟩,?_⟩
  generalize cmn a b c (dnm a b c 3) 3=C at *
  rw [na,nb,nc,Nat.gcd_mul_left,Nat.gcd_mul_left] at hg
  rw [←a4o]
  have:C*Nat.gcd (Nat.gcd (a*nrm a b c).num.natAbs (b*nrm a b c).num.natAbs) (c*nrm a b c).num.natAbs=C*1:=by omega
  exact Nat.eq_of_mul_eq_mul_left hC this
theorem a0r {a b c d:Rat} (h0:¬(a=0∧b=0∧c=0)) (h:hOk a b c d):okH (a*nrm a b c).num (b*nrm a b c).num (c*nrm a b c).num (d*nrm a b c):=⟨h.1,(w6 h0).2.2,h.2⟩
theorem a0i (a b c:Rat):nrm (-a) (-b) (-c)=nrm a b c:=by
  have e:∀(x:Rat) (D:Nat),nmr (-x) D=nmr x D:=fun x D=>by
    unfold nmr
    rw [show -x*(D:Rat)= -(x*(D:Rat)) by grind,Rat.neg_num,Int.natAbs_neg]
  have hd:dnm (-a) (-b) (-c) 3=dnm a b c 3:=by
    show lc (lc (lc 1 (-a).den) (-b).den) (-c).den=lc (lc (lc 1 a.den) b.den) c.den
    rw [Rat.neg_den,Rat.neg_den,Rat.neg_den]
  unfold nrm
  rw [hd]
  generalize dnm a b c 3=D
  have:cmn (-a) (-b) (-c) D 3=cmn a b c D 3:=by
    show Nat.gcd (Nat.gcd (Nat.gcd 0 (nmr (-a) D)) (nmr (-b) D)) (nmr (-c) D)=Nat.gcd (Nat.gcd (Nat.gcd 0 (nmr a D)) (nmr b D)) (nmr c D)
    rw [e,e,e]
  rw [this]
end Go.Proofs
end
section
namespace Go.Proofs
open Go.Ax
theorem a02 {q:Rat} (h:0 < q):q.num.sign=1:=by
  have:0 < q.num:=by rw [Rat.lt_iff] at h;simpa using h
  exact Int.sign_eq_one_of_pos this
theorem a00 {q:Rat} (h:q < 0):q.num.sign= -1:=by
  have:q.num < 0:=by rw [Rat.lt_iff] at h;simpa using h
  exact Int.sign_eq_neg_one_of_neg this
end Go.Proofs
end
section
set_option maxHeartbeats 8000000
set_option maxRecDepth 100000
namespace Go.Proofs
open Go.Ax
theorem a0a (q:Rat) (k:Rat):-q*k= -(q*k):=by grind
theorem a0f (a1 a2 a3 b1 b2 b3 d1 d2 d3:Rat) (ha:okV a1 a2 a3) (hb:okV b1 b2 b3) (hd:okV d1 d2 d3) :
    (∃e:Int,(e=7∨e=4)∧Ax.Pure Tryz.prog G 77 [tV (ratL a1) (ratL a2) (ratL a3),tV (ratL b1) (ratL b2) (ratL b3),tV (ratL d1) (ratL d2) (ratL d3)] (.tup [tH 0 0 0 [],N e]))∨
    ∃(x y z:Int) (w:Rat),okH x y z w∧dot3 (x:Rat) (y:Rat) (z:Rat) a1 a2 a3=w∧dot3 (x:Rat) (y:Rat) (z:Rat) b1 b2 b3=w∧dot3 (x:Rat) (y:Rat) (z:Rat) d1 d2 d3=w∧
      Ax.Pure Tryz.prog G 77 [tV (ratL a1) (ratL a2) (ratL a3),tV (ratL b1) (ratL b2) (ratL b3),tV (ratL d1) (ratL d2) (ratL d3)] (.tup [tH x y z (ratL w),N 0])∧
      Ax.Pure Tryz.prog G 77 [tV (ratL d1) (ratL d2) (ratL d3),tV (ratL b1) (ratL b2) (ratL b3),tV (ratL a1) (ratL a2) (ratL a3)] (.tup [tH (-x) (-y) (-z) (ratL (-w)),N 0]):=by
  have h0:=t7 a1 a2 a3 b1 b2 b3 d1 d2 d3 ha hb hd
  have h1:=s_Through a1 a2 a3 b1 b2 b3 d1 d2 d3 ha hb hd
  have h2:=s9 a1 a2 a3 b1 b2 b3 d1 d2 d3 ha hb hd
  have g1:=s_Through d1 d2 d3 b1 b2 b3 a1 a2 a3 hd hb ha
  rw [show (b2 - d2)*(a3 - d3) - (b3 - d3)*(a2 - d2)= -((b2 - a2)*(d3 - a3) - (b3 - a3)*(d2 - a2)) by grind,show (b3 - d3)*(a1 - d1) - (b1 - d1)*(a3 - d3)= -((b3 - a3)*(d1 - a1) - (b1 - a1)*(d3 - a3)) by grind,show (b1 - d1)*(a2 - d2) - (b2 - d2)*(a1 - d1)= -((b1 - a1)*(d2 - a2) - (b2 - a2)*(d1 - a1)) by grind] at g1
  have kb:((b2 - a2)*(d3 - a3) - (b3 - a3)*(d2 - a2))*b1+((b3 - a3)*(d1 - a1) - (b1 - a1)*(d3 - a3))*b2+((b1 - a1)*(d2 - a2) - (b2 - a2)*(d1 - a1))*b3=((b2 - a2)*(d3 - a3) - (b3 - a3)*(d2 - a2))*a1+((b3 - a3)*(d1 - a1) - (b1 - a1)*(d3 - a3))*a2+((b1 - a1)*(d2 - a2) - (b2 - a2)*(d1 - a1))*a3:=by grind
  have kd:((b2 - a2)*(d3 - a3) - (b3 - a3)*(d2 - a2))*d1+((b3 - a3)*(d1 - a1) - (b1 - a1)*(d3 - a3))*d2+((b1 - a1)*(d2 - a2) - (b2 - a2)*(d1 - a1))*d3=((b2 - a2)*(d3 - a3) - (b3 - a3)*(d2 - a2))*a1+((b3 - a3)*(d1 - a1) - (b1 - a1)*(d3 - a3))*a2+((b1 - a1)*(d2 - a2) - (b2 - a2)*(d1 - a1))*a3:=by grind
  generalize (b2 - a2)*(d3 - a3) - (b3 - a3)*(d2 - a2)=N1 at *
  generalize (b3 - a3)*(d1 - a1) - (b1 - a1)*(d3 - a3)=N2 at *
  generalize (b1 - a1)*(d2 - a2) - (b2 - a2)*(d1 - a1)=N3 at *
  rw [show -N1*d1+ -N2*d2+ -N3*d3= -(N1*a1+N2*a2+N3*a3) by rw [←kd];grind] at g1
  obtain ⟨D,hD⟩:∃D,D=N1*a1+N2*a2+N3*a3:=⟨_,rfl⟩
  rw [←hD] at h1 h2 g1 kb kd
  by_cases n0:N1=0∧N2=0∧N3=0
  · exact .inl ⟨7,.inl rfl,h0 n0⟩
  by_cases hk:hOk N1 N2 N3 D
  rotate_left
  · exact .inl ⟨4,.inr rfl,h2 n0 hk⟩
  right
  have hh:=a0r n0 hk
  obtain ⟨_,⟨e1,e2,e3⟩,_⟩:=w6 n0
  have n0':¬(-N1=0∧-N2=0∧-N3=0):=fun h=>n0 ⟨by grind,by grind,by grind⟩
  have f:∀q:Rat,(-q*nrm N1 N2 N3).num= -(q*nrm N1 N2 N3).num:=fun q=>by rw [a0a,Rat.neg_num]
  have oi:∀{z:Int},okI z→okI (-z):=fun h=>⟨by have:=h.2;omega,by have:=h.1;omega⟩
  have hk':hOk (-N1) (-N2) (-N3) (-D):=by
    unfold hOk
    rw [a0i,f,f,f,a0a,y5]
    exact ⟨⟨oi hk.1.1,oi hk.1.2.1,oi hk.1.2.2⟩,hk.2⟩
  have g:=g1 n0' hk'
  have eT:hT (-N1) (-N2) (-N3) (-D)=tH (-(N1*nrm N1 N2 N3).num) (-(N2*nrm N1 N2 N3).num) (-(N3*nrm N1 N2 N3).num) (ratL (-(D*nrm N1 N2 N3))):=by
    show tH _ _ _ _=_
    rw [a0i,f,f,f,a0a]
  rw [eT] at g
  refine ⟨_,_,_,_,hh,?_,?_,?_,h1 n0 hk,g⟩
  · rw [←e1,←e2,←e3,hD];unfold dot3;grind
  · rw [←e1,←e2,←e3,←kb];unfold dot3;grind
  · rw [←e1,←e2,←e3,←kd];unfold dot3;grind
theorem a0p (a1 a2 a3 b1 b2 b3 d1 d2 d3:Rat) (ha:okV a1 a2 a3) (hb:okV b1 b2 b3) (hd:okV d1 d2 d3) :
    ∃(x y z:Int) (w:List UInt8) (e:Int),Ax.Pure Tryz.prog G 77 [tV (ratL a1) (ratL a2) (ratL a3),tV (ratL b1) (ratL b2) (ratL b3),tV (ratL d1) (ratL d2) (ratL d3)] (.tup [tH x y z w,N e])∧(e=0→∃q:Rat,w=ratL q∧okH x y z q∧dot3 (x:Rat) (y:Rat) (z:Rat) a1 a2 a3=q):=by
  rcases a0f a1 a2 a3 b1 b2 b3 d1 d2 d3 ha hb hd with ⟨e,he,h⟩|⟨x,y,z,w,hh,hw,_,_,h,_⟩
  · exact ⟨0,0,0,[],e,h,fun k=>by omega⟩
  · exact ⟨x,y,z,ratL w,0,h,fun _=>⟨w,rfl,hh,hw⟩⟩
theorem a01 (x y z x' y' z' u v w p1 p2 p3:Rat) (h:det3 x y z x' y' z' u v w≠0):r8 (y'*w - z'*v) (v*z - w*y) (y*z' - z*y') (dot3 x y z p1 p2 p3) (dot3 x' y' z' p1 p2 p3) (dot3 u v w p1 p2 p3)*(det3 x y z x' y' z' u v w)⁻¹=p1:=by
  have e:r8 (y'*w - z'*v) (v*z - w*y) (y*z' - z*y') (dot3 x y z p1 p2 p3) (dot3 x' y' z' p1 p2 p3) (dot3 u v w p1 p2 p3)=det3 x y z x' y' z' u v w*p1:=by unfold r8 dot3 det3;grind
  rw [e];generalize det3 x y z x' y' z' u v w=n at *;grind
theorem a05 (x y z x' y' z' u v w p1 p2 p3:Rat) (h:det3 x y z x' y' z' u v w≠0):r8 (z'*u - x'*w) (w*x - u*z) (z*x' - x*z') (dot3 x y z p1 p2 p3) (dot3 x' y' z' p1 p2 p3) (dot3 u v w p1 p2 p3)*(det3 x y z x' y' z' u v w)⁻¹=p2:=by
  have e:r8 (z'*u - x'*w) (w*x - u*z) (z*x' - x*z') (dot3 x y z p1 p2 p3) (dot3 x' y' z' p1 p2 p3) (dot3 u v w p1 p2 p3)=det3 x y z x' y' z' u v w*p2:=by unfold r8 dot3 det3;grind
  rw [e];generalize det3 x y z x' y' z' u v w=n at *;grind
theorem a0l (x y z x' y' z' u v w p1 p2 p3:Rat) (h:det3 x y z x' y' z' u v w≠0):r8 (x'*v - y'*u) (u*y - v*x) (x*y' - y*x') (dot3 x y z p1 p2 p3) (dot3 x' y' z' p1 p2 p3) (dot3 u v w p1 p2 p3)*(det3 x y z x' y' z' u v w)⁻¹=p3:=by
  have e:r8 (x'*v - y'*u) (u*y - v*x) (x*y' - y*x') (dot3 x y z p1 p2 p3) (dot3 x' y' z' p1 p2 p3) (dot3 u v w p1 p2 p3)=det3 x y z x' y' z' u v w*p3:=by unfold r8 dot3 det3;grind
  rw [e];generalize det3 x y z x' y' z' u v w=n at *;grind
theorem cr_at (x1 y1 z1:Int) (w1:Rat) (h1:okH x1 y1 z1 w1) (x2 y2 z2:Int) (w2:Rat) (h2:okH x2 y2 z2 w2) (x3 y3 z3:Int) (w3:Rat) (h3:okH x3 y3 z3 w3) (p1 p2 p3:Rat) (hp:okV p1 p2 p3) (k1:dot3 (x1:Rat) (y1:Rat) (z1:Rat) p1 p2 p3=w1) (k2:dot3 (x2:Rat) (y2:Rat) (z2:Rat) p1 p2 p3=w2) (k3:dot3 (x3:Rat) (y3:Rat) (z3:Rat) p1 p2 p3=w3) :
    Ax.Pure Tryz.prog G 80 [tH x1 y1 z1 (ratL w1),tH x2 y2 z2 (ratL w2),tH x3 y3 z3 (ratL w3)] (.tup [tV [] [] [],N 7])∨Ax.Pure Tryz.prog G 80 [tH x1 y1 z1 (ratL w1),tH x2 y2 z2 (ratL w2),tH x3 y3 z3 (ratL w3)] (.tup [tV (ratL p1) (ratL p2) (ratL p3),N 0]):=by
  by_cases h0:det3 (x1:Rat) (y1:Rat) (z1:Rat) (x2:Rat) (y2:Rat) (z2:Rat) (x3:Rat) (y3:Rat) (z3:Rat)=0
  · exact .inl (t6 x1 y1 z1 w1 h1 x2 y2 z2 w2 h2 x3 y3 z3 w3 h3 h0)
  · have h:=t8 x1 y1 z1 w1 h1 x2 y2 z2 w2 h2 x3 y3 z3 w3 h3 h0
    have e1:=a01 (x1:Rat) (y1:Rat) (z1:Rat) (x2:Rat) (y2:Rat) (z2:Rat) (x3:Rat) (y3:Rat) (z3:Rat) p1 p2 p3 h0
    have e2:=a05 (x1:Rat) (y1:Rat) (z1:Rat) (x2:Rat) (y2:Rat) (z2:Rat) (x3:Rat) (y3:Rat) (z3:Rat) p1 p2 p3 h0
    have e3:=a0l (x1:Rat) (y1:Rat) (z1:Rat) (x2:Rat) (y2:Rat) (z2:Rat) (x3:Rat) (y3:Rat) (z3:Rat) p1 p2 p3 h0
    rw [k1,k2,k3] at e1 e2 e3
    rw [e1,e2,e3] at h
    exact .inr (a33 h hp)
theorem a04 (a b c d:V3) (t:Nat→Bool) (h:∃j,j < 4∧t j=false) (c_f0:Ax.Pure Tryz.prog G 55 [txV a,N 5] (Bo (t 0))) (c_f1:Ax.Pure Tryz.prog G 55 [txV b,N 5] (Bo (t 1))) (c_f2:Ax.Pure Tryz.prog G 55 [txV c,N 5] (Bo (t 2))) (c_f3:Ax.Pure Tryz.prog G 55 [txV d,N 5] (Bo (t 3))) :
    Ax.Pure Tryz.prog G 14 [txF a b c d] (Bo true):=by
  have c_aw:=c_awake
  obtain ⟨j,hj,ht⟩:=h
  refine zen Tryz.func14 rfl Tryz.ntmps14 ?_
  intro w0 E0 hc
  repeat' (first|(with_reducible first|refine Wp_seq ?_|refine zr0 hc ?_|refine zm0 hc ?_|refine zwk ?_|refine Wp_block ?_|refine zgo ?_|refine zbn ?_|refine zge Tryz.results14 ?_|refine Sub.refl _|refine allP_nil|refine zoa1 (out':=?_) ?_|refine zca1 (y:=?_) ?_|refine zea1 (eo':=?_) ?_)|(with_reducible refine allP_cons ?_ ?_;focus (first|decide|omega))|(with_reducible first|refine zg2 ?_ ?_|refine zoc c_aw ?_ ?_|refine zbo ?_|refine zg3 ?_ (fun h=>?_) (fun h=>?_)|refine zg4 (fun h=>?_) (fun h=>?_)|fail)|((first|omega|(refine absurd ?_ h;decide)|(refine nf1 ?_;with_reducible assumption)|(refine nf2 ?_;with_reducible assumption)|(exfalso;simp [beq_bs] at h;done)|fail);done))
  refine Wp_loopI (α:=Nat) (fun i=>stOf [(1,.one (.ptr 0 12 0 0)),(3,N i)] [(0,⟨12,1,fun _=> [.v (.string (bs a.1)),.v (.string (bs a.2.1)),.v (.string (bs a.2.2)),.v (.string (bs b.1)),.v (.string (bs b.2.1)),.v (.string (bs b.2.2)),.v (.string (bs c.1)),.v (.string (bs c.2.1)),.v (.string (bs c.2.2)),.v (.string (bs d.1)),.v (.string (bs d.2.1)),.v (.string (bs d.2.2))],false⟩)] 1) (fun i=>i≤4∧∀k,k < i→t k=true) (fun i=>4 - i) 0 ⟨Nat.zero_le _,fun k hk=>by omega⟩ ?_ ?_
  · refine zwa1 (l1:=?_) (h1:=?_) ?_ ?_ <;> (repeat' (first|(with_reducible first|exact slotsOk_nil|exact boxesOk_nil|refine slotsOk_eq ?_ ?_|refine slotsOk_cons ?_ ?_ ?_|refine boxesOk_one rfl ?_ ?_ ?_|refine boxesOk_cons rfl (fun i hi=>?_) ?_ (fun i hi=>?_) ?_|refine sub_int ?_|refine sub_own_eq ?_ ?_|refine sub_gr_eq ?_ ?_|exact sub_nil_gr|exact sub_own_gr)|(first|omega|(simp only [IntKind.wrap_i64,IntKind.wrap_u64,List.length_append,List.length_singleton,List.length_cons,List.length_nil];omega))|((first|show AV.cl _ _|show clL _ _);simp [AV.cl,clL,Leaf.cl,clV];done)|(dsimp only [ite00];done)|(with_reducible first|exact SubLv.refl _|refine subLv_int ?_ ?_|refine subLv_frac ?_ ?_)|(dsimp only [ite00];with_reducible exact SubLv.refl _)|fail))
  · rintro i ⟨hi,hk⟩
    rcases (by omega:i=0∨i=1∨i=2∨i=3∨i=4) with rfl|rfl|rfl|rfl|rfl
    · cases e:t 0
      · rw [e] at c_f0
        repeat' (first|(with_reducible first|refine Wp_seq ?_|refine zr0 hc ?_|refine zm0 hc ?_|refine zwk ?_|refine Wp_block ?_|refine zgo ?_|refine zbn ?_|refine zge Tryz.results14 ?_|refine Sub.refl _|refine allP_nil|refine zoa1 (out':=?_) ?_|refine zca1 (y:=?_) ?_|refine zea1 (eo':=?_) ?_)|(with_reducible refine allP_cons ?_ ?_;focus (first|decide|omega))|(with_reducible first|refine zg2 ?_ ?_|refine zoc c_f0 ?_ ?_|refine zbo ?_|refine zg3 ?_ (fun h=>?_) (fun h=>?_)|refine zg4 (fun h=>?_) (fun h=>?_)|fail)|((first|omega|(refine absurd ?_ h;decide)|(refine nf1 ?_;with_reducible assumption)|(refine nf2 ?_;with_reducible assumption)|(exfalso;simp [beq_bs] at h;done)|fail);done))
      · rw [e] at c_f0
        repeat' (first|(with_reducible first|refine Wp_seq ?_|refine zr0 hc ?_|refine zm0 hc ?_|refine zwk ?_|refine Wp_block ?_|refine zgo ?_|refine zbn ?_|refine zge Tryz.results14 ?_|refine Sub.refl _|refine allP_nil|refine zoa1 (out':=?_) ?_|refine zca1 (y:=?_) ?_|refine zea1 (eo':=?_) ?_)|(with_reducible refine allP_cons ?_ ?_;focus (first|decide|omega))|(with_reducible first|refine zg2 ?_ ?_|refine zoc c_f0 ?_ ?_|refine zbo ?_|refine zg3 ?_ (fun h=>?_) (fun h=>?_)|refine zg4 (fun h=>?_) (fun h=>?_)|fail)|((first|omega|(refine absurd ?_ h;decide)|(refine nf1 ?_;with_reducible assumption)|(refine nf2 ?_;with_reducible assumption)|(exfalso;simp [beq_bs] at h;done)|fail);done))
        · refine ⟨1,⟨by omega,fun k hk2=>?_⟩,by omega,?_⟩
          · by_cases hkk:k=0
            · subst hkk;exact e
            · exact hk k (by omega)
          · refine zwa1 (l1:=?_) (h1:=?_) ?_ ?_ <;> (repeat' (first|(with_reducible first|exact slotsOk_nil|exact boxesOk_nil|refine slotsOk_eq ?_ ?_|refine slotsOk_cons ?_ ?_ ?_|refine boxesOk_one rfl ?_ ?_ ?_|refine boxesOk_cons rfl (fun i hi=>?_) ?_ (fun i hi=>?_) ?_|refine sub_int ?_|refine sub_own_eq ?_ ?_|refine sub_gr_eq ?_ ?_|exact sub_nil_gr|exact sub_own_gr)|(first|omega|(simp only [IntKind.wrap_i64,IntKind.wrap_u64,List.length_append,List.length_singleton,List.length_cons,List.length_nil];omega))|((first|show AV.cl _ _|show clL _ _);simp [AV.cl,clL,Leaf.cl,clV];done)|(dsimp only [ite00];done)|(with_reducible first|exact SubLv.refl _|refine subLv_int ?_ ?_|refine subLv_frac ?_ ?_)|(dsimp only [ite00];with_reducible exact SubLv.refl _)|fail))
    · cases e:t 1
      · rw [e] at c_f1
        repeat' (first|(with_reducible first|refine Wp_seq ?_|refine zr0 hc ?_|refine zm0 hc ?_|refine zwk ?_|refine Wp_block ?_|refine zgo ?_|refine zbn ?_|refine zge Tryz.results14 ?_|refine Sub.refl _|refine allP_nil|refine zoa1 (out':=?_) ?_|refine zca1 (y:=?_) ?_|refine zea1 (eo':=?_) ?_)|(with_reducible refine allP_cons ?_ ?_;focus (first|decide|omega))|(with_reducible first|refine zg2 ?_ ?_|refine zoc c_f1 ?_ ?_|refine zbo ?_|refine zg3 ?_ (fun h=>?_) (fun h=>?_)|refine zg4 (fun h=>?_) (fun h=>?_)|fail)|((first|omega|(refine absurd ?_ h;decide)|(refine nf1 ?_;with_reducible assumption)|(refine nf2 ?_;with_reducible assumption)|(exfalso;simp [beq_bs] at h;done)|fail);done))
      · rw [e] at c_f1
        repeat' (first|(with_reducible first|refine Wp_seq ?_|refine zr0 hc ?_|refine zm0 hc ?_|refine zwk ?_|refine Wp_block ?_|refine zgo ?_|refine zbn ?_|refine zge Tryz.results14 ?_|refine Sub.refl _|refine allP_nil|refine zoa1 (out':=?_) ?_|refine zca1 (y:=?_) ?_|refine zea1 (eo':=?_) ?_)|(with_reducible refine allP_cons ?_ ?_;focus (first|decide|omega))|(with_reducible first|refine zg2 ?_ ?_|refine zoc c_f1 ?_ ?_|refine zbo ?_|refine zg3 ?_ (fun h=>?_) (fun h=>?_)|refine zg4 (fun h=>?_) (fun h=>?_)|fail)|((first|omega|(refine absurd ?_ h;decide)|(refine nf1 ?_;with_reducible assumption)|(refine nf2 ?_;with_reducible assumption)|(exfalso;simp [beq_bs] at h;done)|fail);done))
        · refine ⟨2,⟨by omega,fun k hk2=>?_⟩,by omega,?_⟩
          · by_cases hkk:k=1
            · subst hkk;exact e
            · exact hk k (by omega)
          · refine zwa1 (l1:=?_) (h1:=?_) ?_ ?_ <;> (repeat' (first|(with_reducible first|exact slotsOk_nil|exact boxesOk_nil|refine slotsOk_eq ?_ ?_|refine slotsOk_cons ?_ ?_ ?_|refine boxesOk_one rfl ?_ ?_ ?_|refine boxesOk_cons rfl (fun i hi=>?_) ?_ (fun i hi=>?_) ?_|refine sub_int ?_|refine sub_own_eq ?_ ?_|refine sub_gr_eq ?_ ?_|exact sub_nil_gr|exact sub_own_gr)|(first|omega|(simp only [IntKind.wrap_i64,IntKind.wrap_u64,List.length_append,List.length_singleton,List.length_cons,List.length_nil];omega))|((first|show AV.cl _ _|show clL _ _);simp [AV.cl,clL,Leaf.cl,clV];done)|(dsimp only [ite00];done)|(with_reducible first|exact SubLv.refl _|refine subLv_int ?_ ?_|refine subLv_frac ?_ ?_)|(dsimp only [ite00];with_reducible exact SubLv.refl _)|fail))
    · cases e:t 2
      · rw [e] at c_f2
        repeat' (first|(with_reducible first|refine Wp_seq ?_|refine zr0 hc ?_|refine zm0 hc ?_|refine zwk ?_|refine Wp_block ?_|refine zgo ?_|refine zbn ?_|refine zge Tryz.results14 ?_|refine Sub.refl _|refine allP_nil|refine zoa1 (out':=?_) ?_|refine zca1 (y:=?_) ?_|refine zea1 (eo':=?_) ?_)|(with_reducible refine allP_cons ?_ ?_;focus (first|decide|omega))|(with_reducible first|refine zg2 ?_ ?_|refine zoc c_f2 ?_ ?_|refine zbo ?_|refine zg3 ?_ (fun h=>?_) (fun h=>?_)|refine zg4 (fun h=>?_) (fun h=>?_)|fail)|((first|omega|(refine absurd ?_ h;decide)|(refine nf1 ?_;with_reducible assumption)|(refine nf2 ?_;with_reducible assumption)|(exfalso;simp [beq_bs] at h;done)|fail);done))
      · rw [e] at c_f2
        repeat' (first|(with_reducible first|refine Wp_seq ?_|refine zr0 hc ?_|refine zm0 hc ?_|refine zwk ?_|refine Wp_block ?_|refine zgo ?_|refine zbn ?_|refine zge Tryz.results14 ?_|refine Sub.refl _|refine allP_nil|refine zoa1 (out':=?_) ?_|refine zca1 (y:=?_) ?_|refine zea1 (eo':=?_) ?_)|(with_reducible refine allP_cons ?_ ?_;focus (first|decide|omega))|(with_reducible first|refine zg2 ?_ ?_|refine zoc c_f2 ?_ ?_|refine zbo ?_|refine zg3 ?_ (fun h=>?_) (fun h=>?_)|refine zg4 (fun h=>?_) (fun h=>?_)|fail)|((first|omega|(refine absurd ?_ h;decide)|(refine nf1 ?_;with_reducible assumption)|(refine nf2 ?_;with_reducible assumption)|(exfalso;simp [beq_bs] at h;done)|fail);done))
        · refine ⟨3,⟨by omega,fun k hk2=>?_⟩,by omega,?_⟩
          · by_cases hkk:k=2
            · subst hkk;exact e
            · exact hk k (by omega)
          · refine zwa1 (l1:=?_) (h1:=?_) ?_ ?_ <;> (repeat' (first|(with_reducible first|exact slotsOk_nil|exact boxesOk_nil|refine slotsOk_eq ?_ ?_|refine slotsOk_cons ?_ ?_ ?_|refine boxesOk_one rfl ?_ ?_ ?_|refine boxesOk_cons rfl (fun i hi=>?_) ?_ (fun i hi=>?_) ?_|refine sub_int ?_|refine sub_own_eq ?_ ?_|refine sub_gr_eq ?_ ?_|exact sub_nil_gr|exact sub_own_gr)|(first|omega|(simp only [IntKind.wrap_i64,IntKind.wrap_u64,List.length_append,List.length_singleton,List.length_cons,List.length_nil];omega))|((first|show AV.cl _ _|show clL _ _);simp [AV.cl,clL,Leaf.cl,clV];done)|(dsimp only [ite00];done)|(with_reducible first|exact SubLv.refl _|refine subLv_int ?_ ?_|refine subLv_frac ?_ ?_)|(dsimp only [ite00];with_reducible exact SubLv.refl _)|fail))
    · cases e:t 3
      · rw [e] at c_f3
        repeat' (first|(with_reducible first|refine Wp_seq ?_|refine zr0 hc ?_|refine zm0 hc ?_|refine zwk ?_|refine Wp_block ?_|refine zgo ?_|refine zbn ?_|refine zge Tryz.results14 ?_|refine Sub.refl _|refine allP_nil|refine zoa1 (out':=?_) ?_|refine zca1 (y:=?_) ?_|refine zea1 (eo':=?_) ?_)|(with_reducible refine allP_cons ?_ ?_;focus (first|decide|omega))|(with_reducible first|refine zg2 ?_ ?_|refine zoc c_f3 ?_ ?_|refine zbo ?_|refine zg3 ?_ (fun h=>?_) (fun h=>?_)|refine zg4 (fun h=>?_) (fun h=>?_)|fail)|((first|omega|(refine absurd ?_ h;decide)|(refine nf1 ?_;with_reducible assumption)|(refine nf2 ?_;with_reducible assumption)|(exfalso;simp [beq_bs] at h;done)|fail);done))
      · rw [e] at c_f3
        repeat' (first|(with_reducible first|refine Wp_seq ?_|refine zr0 hc ?_|refine zm0 hc ?_|refine zwk ?_|refine Wp_block ?_|refine zgo ?_|refine zbn ?_|refine zge Tryz.results14 ?_|refine Sub.refl _|refine allP_nil|refine zoa1 (out':=?_) ?_|refine zca1 (y:=?_) ?_|refine zea1 (eo':=?_) ?_)|(with_reducible refine allP_cons ?_ ?_;focus (first|decide|omega))|(with_reducible first|refine zg2 ?_ ?_|refine zoc c_f3 ?_ ?_|refine zbo ?_|refine zg3 ?_ (fun h=>?_) (fun h=>?_)|refine zg4 (fun h=>?_) (fun h=>?_)|fail)|((first|omega|(refine absurd ?_ h;decide)|(refine nf1 ?_;with_reducible assumption)|(refine nf2 ?_;with_reducible assumption)|(exfalso;simp [beq_bs] at h;done)|fail);done))
        · refine ⟨4,⟨by omega,fun k hk2=>?_⟩,by omega,?_⟩
          · by_cases hkk:k=3
            · subst hkk;exact e
            · exact hk k (by omega)
          · refine zwa1 (l1:=?_) (h1:=?_) ?_ ?_ <;> (repeat' (first|(with_reducible first|exact slotsOk_nil|exact boxesOk_nil|refine slotsOk_eq ?_ ?_|refine slotsOk_cons ?_ ?_ ?_|refine boxesOk_one rfl ?_ ?_ ?_|refine boxesOk_cons rfl (fun i hi=>?_) ?_ (fun i hi=>?_) ?_|refine sub_int ?_|refine sub_own_eq ?_ ?_|refine sub_gr_eq ?_ ?_|exact sub_nil_gr|exact sub_own_gr)|(first|omega|(simp only [IntKind.wrap_i64,IntKind.wrap_u64,List.length_append,List.length_singleton,List.length_cons,List.length_nil];omega))|((first|show AV.cl _ _|show clL _ _);simp [AV.cl,clL,Leaf.cl,clV];done)|(dsimp only [ite00];done)|(with_reducible first|exact SubLv.refl _|refine subLv_int ?_ ?_|refine subLv_frac ?_ ?_)|(dsimp only [ite00];with_reducible exact SubLv.refl _)|fail))
    · exact absurd (ht.symm.trans (hk j hj)) Bool.false_ne_true
theorem a0t (a b c d:V3) (e:Int) (he:e=7∨e=4) (c_f0:Ax.Pure Tryz.prog G 55 [txV a,N 5] (Bo true)) (c_f1:Ax.Pure Tryz.prog G 55 [txV b,N 5] (Bo true)) (c_f2:Ax.Pure Tryz.prog G 55 [txV c,N 5] (Bo true)) (c_f3:Ax.Pure Tryz.prog G 55 [txV d,N 5] (Bo true)) (c_t:Ax.Pure Tryz.prog G 77 [txV a,txV b,txV c] (.tup [tH 0 0 0 [],N e])) :
    Ax.Pure Tryz.prog G 14 [txF a b c d] (Bo true):=by
  have c_aw:=c_awake
  refine zen Tryz.func14 rfl Tryz.ntmps14 ?_
  intro w0 E0 hc
  repeat' (first|(with_reducible first|refine Wp_seq ?_|refine zr0 hc ?_|refine zm0 hc ?_|refine zwk ?_|refine Wp_block ?_|refine zgo ?_|refine zbn ?_|refine zge Tryz.results14 ?_|refine Sub.refl _|refine allP_nil|refine zoa1 (out':=?_) ?_|refine zca1 (y:=?_) ?_|refine zea1 (eo':=?_) ?_)|(with_reducible refine allP_cons ?_ ?_;focus (first|decide|omega))|(with_reducible first|refine zg2 ?_ ?_|refine zoc c_aw ?_ ?_|refine zbo ?_|refine zg3 ?_ (fun h=>?_) (fun h=>?_)|refine zg4 (fun h=>?_) (fun h=>?_)|fail)|((first|omega|(refine absurd ?_ h;decide)|(refine nf1 ?_;with_reducible assumption)|(refine nf2 ?_;with_reducible assumption)|(exfalso;simp [beq_bs] at h;done)|fail);done))
  refine Wp_loopI (α:=Nat) (fun i=>stOf [(1,.one (.ptr 0 12 0 0)),(3,N i)] [(0,⟨12,1,fun _=> [.v (.string (bs a.1)),.v (.string (bs a.2.1)),.v (.string (bs a.2.2)),.v (.string (bs b.1)),.v (.string (bs b.2.1)),.v (.string (bs b.2.2)),.v (.string (bs c.1)),.v (.string (bs c.2.1)),.v (.string (bs c.2.2)),.v (.string (bs d.1)),.v (.string (bs d.2.1)),.v (.string (bs d.2.2))],false⟩)] 1) (fun i=>i≤4) (fun i=>4 - i) 0 (Nat.zero_le _) ?_ ?_
  · refine zwa1 (l1:=?_) (h1:=?_) ?_ ?_ <;> (repeat' (first|(with_reducible first|exact slotsOk_nil|exact boxesOk_nil|refine slotsOk_eq ?_ ?_|refine slotsOk_cons ?_ ?_ ?_|refine boxesOk_one rfl ?_ ?_ ?_|refine boxesOk_cons rfl (fun i hi=>?_) ?_ (fun i hi=>?_) ?_|refine sub_int ?_|refine sub_own_eq ?_ ?_|refine sub_gr_eq ?_ ?_|exact sub_nil_gr|exact sub_own_gr)|(first|omega|(simp only [IntKind.wrap_i64,IntKind.wrap_u64,List.length_append,List.length_singleton,List.length_cons,List.length_nil];omega))|((first|show AV.cl _ _|show clL _ _);simp [AV.cl,clL,Leaf.cl,clV];done)|(dsimp only [ite00];done)|(with_reducible first|exact SubLv.refl _|refine subLv_int ?_ ?_|refine subLv_frac ?_ ?_)|(dsimp only [ite00];with_reducible exact SubLv.refl _)|fail))
  · intro i hi
    rcases (by omega:i=0∨i=1∨i=2∨i=3∨i=4) with rfl|rfl|rfl|rfl|rfl
    · repeat' (first|(with_reducible first|refine Wp_seq ?_|refine zr0 hc ?_|refine zm0 hc ?_|refine zwk ?_|refine Wp_block ?_|refine zgo ?_|refine zbn ?_|refine zge Tryz.results14 ?_|refine Sub.refl _|refine allP_nil|refine zoa1 (out':=?_) ?_|refine zca1 (y:=?_) ?_|refine zea1 (eo':=?_) ?_)|(with_reducible refine allP_cons ?_ ?_;focus (first|decide|omega))|(with_reducible first|refine zg2 ?_ ?_|refine zoc c_f0 ?_ ?_|refine zbo ?_|refine zg3 ?_ (fun h=>?_) (fun h=>?_)|refine zg4 (fun h=>?_) (fun h=>?_)|fail)|((first|omega|(refine absurd ?_ h;decide)|(refine nf1 ?_;with_reducible assumption)|(refine nf2 ?_;with_reducible assumption)|(exfalso;simp [beq_bs] at h;done)|fail);done))
      · refine ⟨1,by omega,by omega,?_⟩
        refine zwa1 (l1:=?_) (h1:=?_) ?_ ?_ <;> (repeat' (first|(with_reducible first|exact slotsOk_nil|exact boxesOk_nil|refine slotsOk_eq ?_ ?_|refine slotsOk_cons ?_ ?_ ?_|refine boxesOk_one rfl ?_ ?_ ?_|refine boxesOk_cons rfl (fun i hi=>?_) ?_ (fun i hi=>?_) ?_|refine sub_int ?_|refine sub_own_eq ?_ ?_|refine sub_gr_eq ?_ ?_|exact sub_nil_gr|exact sub_own_gr)|(first|omega|(simp only [IntKind.wrap_i64,IntKind.wrap_u64,List.length_append,List.length_singleton,List.length_cons,List.length_nil];omega))|((first|show AV.cl _ _|show clL _ _);simp [AV.cl,clL,Leaf.cl,clV];done)|(dsimp only [ite00];done)|(with_reducible first|exact SubLv.refl _|refine subLv_int ?_ ?_|refine subLv_frac ?_ ?_)|(dsimp only [ite00];with_reducible exact SubLv.refl _)|fail))
    · repeat' (first|(with_reducible first|refine Wp_seq ?_|refine zr0 hc ?_|refine zm0 hc ?_|refine zwk ?_|refine Wp_block ?_|refine zgo ?_|refine zbn ?_|refine zge Tryz.results14 ?_|refine Sub.refl _|refine allP_nil|refine zoa1 (out':=?_) ?_|refine zca1 (y:=?_) ?_|refine zea1 (eo':=?_) ?_)|(with_reducible refine allP_cons ?_ ?_;focus (first|decide|omega))|(with_reducible first|refine zg2 ?_ ?_|refine zoc c_f1 ?_ ?_|refine zbo ?_|refine zg3 ?_ (fun h=>?_) (fun h=>?_)|refine zg4 (fun h=>?_) (fun h=>?_)|fail)|((first|omega|(refine absurd ?_ h;decide)|(refine nf1 ?_;with_reducible assumption)|(refine nf2 ?_;with_reducible assumption)|(exfalso;simp [beq_bs] at h;done)|fail);done))
      · refine ⟨2,by omega,by omega,?_⟩
        refine zwa1 (l1:=?_) (h1:=?_) ?_ ?_ <;> (repeat' (first|(with_reducible first|exact slotsOk_nil|exact boxesOk_nil|refine slotsOk_eq ?_ ?_|refine slotsOk_cons ?_ ?_ ?_|refine boxesOk_one rfl ?_ ?_ ?_|refine boxesOk_cons rfl (fun i hi=>?_) ?_ (fun i hi=>?_) ?_|refine sub_int ?_|refine sub_own_eq ?_ ?_|refine sub_gr_eq ?_ ?_|exact sub_nil_gr|exact sub_own_gr)|(first|omega|(simp only [IntKind.wrap_i64,IntKind.wrap_u64,List.length_append,List.length_singleton,List.length_cons,List.length_nil];omega))|((first|show AV.cl _ _|show clL _ _);simp [AV.cl,clL,Leaf.cl,clV];done)|(dsimp only [ite00];done)|(with_reducible first|exact SubLv.refl _|refine subLv_int ?_ ?_|refine subLv_frac ?_ ?_)|(dsimp only [ite00];with_reducible exact SubLv.refl _)|fail))
    · repeat' (first|(with_reducible first|refine Wp_seq ?_|refine zr0 hc ?_|refine zm0 hc ?_|refine zwk ?_|refine Wp_block ?_|refine zgo ?_|refine zbn ?_|refine zge Tryz.results14 ?_|refine Sub.refl _|refine allP_nil|refine zoa1 (out':=?_) ?_|refine zca1 (y:=?_) ?_|refine zea1 (eo':=?_) ?_)|(with_reducible refine allP_cons ?_ ?_;focus (first|decide|omega))|(with_reducible first|refine zg2 ?_ ?_|refine zoc c_f2 ?_ ?_|refine zbo ?_|refine zg3 ?_ (fun h=>?_) (fun h=>?_)|refine zg4 (fun h=>?_) (fun h=>?_)|fail)|((first|omega|(refine absurd ?_ h;decide)|(refine nf1 ?_;with_reducible assumption)|(refine nf2 ?_;with_reducible assumption)|(exfalso;simp [beq_bs] at h;done)|fail);done))
      · refine ⟨3,by omega,by omega,?_⟩
        refine zwa1 (l1:=?_) (h1:=?_) ?_ ?_ <;> (repeat' (first|(with_reducible first|exact slotsOk_nil|exact boxesOk_nil|refine slotsOk_eq ?_ ?_|refine slotsOk_cons ?_ ?_ ?_|refine boxesOk_one rfl ?_ ?_ ?_|refine boxesOk_cons rfl (fun i hi=>?_) ?_ (fun i hi=>?_) ?_|refine sub_int ?_|refine sub_own_eq ?_ ?_|refine sub_gr_eq ?_ ?_|exact sub_nil_gr|exact sub_own_gr)|(first|omega|(simp only [IntKind.wrap_i64,IntKind.wrap_u64,List.length_append,List.length_singleton,List.length_cons,List.length_nil];omega))|((first|show AV.cl _ _|show clL _ _);simp [AV.cl,clL,Leaf.cl,clV];done)|(dsimp only [ite00];done)|(with_reducible first|exact SubLv.refl _|refine subLv_int ?_ ?_|refine subLv_frac ?_ ?_)|(dsimp only [ite00];with_reducible exact SubLv.refl _)|fail))
    · repeat' (first|(with_reducible first|refine Wp_seq ?_|refine zr0 hc ?_|refine zm0 hc ?_|refine zwk ?_|refine Wp_block ?_|refine zgo ?_|refine zbn ?_|refine zge Tryz.results14 ?_|refine Sub.refl _|refine allP_nil|refine zoa1 (out':=?_) ?_|refine zca1 (y:=?_) ?_|refine zea1 (eo':=?_) ?_)|(with_reducible refine allP_cons ?_ ?_;focus (first|decide|omega))|(with_reducible first|refine zg2 ?_ ?_|refine zoc c_f3 ?_ ?_|refine zbo ?_|refine zg3 ?_ (fun h=>?_) (fun h=>?_)|refine zg4 (fun h=>?_) (fun h=>?_)|fail)|((first|omega|(refine absurd ?_ h;decide)|(refine nf1 ?_;with_reducible assumption)|(refine nf2 ?_;with_reducible assumption)|(exfalso;simp [beq_bs] at h;done)|fail);done))
      · refine ⟨4,by omega,by omega,?_⟩
        refine zwa1 (l1:=?_) (h1:=?_) ?_ ?_ <;> (repeat' (first|(with_reducible first|exact slotsOk_nil|exact boxesOk_nil|refine slotsOk_eq ?_ ?_|refine slotsOk_cons ?_ ?_ ?_|refine boxesOk_one rfl ?_ ?_ ?_|refine boxesOk_cons rfl (fun i hi=>?_) ?_ (fun i hi=>?_) ?_|refine sub_int ?_|refine sub_own_eq ?_ ?_|refine sub_gr_eq ?_ ?_|exact sub_nil_gr|exact sub_own_gr)|(first|omega|(simp only [IntKind.wrap_i64,IntKind.wrap_u64,List.length_append,List.length_singleton,List.length_cons,List.length_nil];omega))|((first|show AV.cl _ _|show clL _ _);simp [AV.cl,clL,Leaf.cl,clV];done)|(dsimp only [ite00];done)|(with_reducible first|exact SubLv.refl _|refine subLv_int ?_ ?_|refine subLv_frac ?_ ?_)|(dsimp only [ite00];with_reducible exact SubLv.refl _)|fail))
    · rcases he with rfl|rfl
      all_goals
        repeat' (first|(with_reducible first|refine Wp_seq ?_|refine zr0 hc ?_|refine zm0 hc ?_|refine zwk ?_|refine Wp_block ?_|refine zgo ?_|refine zbn ?_|refine zge Tryz.results14 ?_|refine Sub.refl _|refine allP_nil|refine zoa1 (out':=?_) ?_|refine zca1 (y:=?_) ?_|refine zea1 (eo':=?_) ?_)|(with_reducible refine allP_cons ?_ ?_;focus (first|decide|omega))|(with_reducible first|refine zg2 ?_ ?_|refine zoc c_t ?_ ?_|refine zbo ?_|refine zg3 ?_ (fun h=>?_) (fun h=>?_)|refine zg4 (fun h=>?_) (fun h=>?_)|fail)|((first|omega|(refine absurd ?_ h;decide)|(refine nf1 ?_;with_reducible assumption)|(refine nf2 ?_;with_reducible assumption)|(exfalso;simp [beq_bs] at h;done)|fail);done))
        all_goals first|exact Sub.refl _|exact sub_eq (congrArg Bo (by decide))
theorem a0w (a b c d:V3) (x y z:Int) (w:List UInt8) (c_f0:Ax.Pure Tryz.prog G 55 [txV a,N 5] (Bo true)) (c_f1:Ax.Pure Tryz.prog G 55 [txV b,N 5] (Bo true)) (c_f2:Ax.Pure Tryz.prog G 55 [txV c,N 5] (Bo true)) (c_f3:Ax.Pure Tryz.prog G 55 [txV d,N 5] (Bo true))
    (c_t:Ax.Pure Tryz.prog G 77 [txV a,txV b,txV c] (.tup [tH x y z w,N 0])) (w':List UInt8) (c_u:Ax.Pure Tryz.prog G 77 [txV c,txV b,txV a] (.tup [tH (-x) (-y) (-z) w',N 0])) (c_o:Ax.Pure Tryz.prog G 41 [tH x y z w] (.tup [tH (-x) (-y) (-z) w',N 0]))
    (c_kh:Ax.Pure Tryz.prog G 32 [tH x y z w] (N 0)) (n:V3) (c_n:Ax.Pure Tryz.prog G 56 [tH x y z w] (txV n)) (m:Nat→V3)
    (c_s0:Ax.Pure Tryz.prog G 42 [tH x y z w,txV a] (.tup [N 0,N 0])) (c_m0:Ax.Pure Tryz.prog G 84 [txV a,txV n] (txV (m 0))) (c_t0:Ax.Pure Tryz.prog G 42 [tH x y z w,txV (m 0)] (.tup [N 1,N 0])) (c_u0:Ax.Pure Tryz.prog G 42 [tH (-x) (-y) (-z) w',txV (m 0)] (.tup [N (-1),N 0]))
    (c_s1:Ax.Pure Tryz.prog G 42 [tH x y z w,txV b] (.tup [N 0,N 0])) (c_m1:Ax.Pure Tryz.prog G 84 [txV b,txV n] (txV (m 1))) (c_t1:Ax.Pure Tryz.prog G 42 [tH x y z w,txV (m 1)] (.tup [N 1,N 0])) (c_u1:Ax.Pure Tryz.prog G 42 [tH (-x) (-y) (-z) w',txV (m 1)] (.tup [N (-1),N 0]))
    (c_s2:Ax.Pure Tryz.prog G 42 [tH x y z w,txV c] (.tup [N 0,N 0])) (c_m2:Ax.Pure Tryz.prog G 84 [txV c,txV n] (txV (m 2))) (c_t2:Ax.Pure Tryz.prog G 42 [tH x y z w,txV (m 2)] (.tup [N 1,N 0])) (c_u2:Ax.Pure Tryz.prog G 42 [tH (-x) (-y) (-z) w',txV (m 2)] (.tup [N (-1),N 0]))
    (x1 y1 z1 x2 y2 z2 e1 e2 e3:Int) (w1 w2:List UInt8) (c_a:Ax.Pure Tryz.prog G 77 [txV a,txV b,txV d] (.tup [tH x1 y1 z1 w1,N e1])) (c_b:Ax.Pure Tryz.prog G 77 [txV a,txV c,txV d] (.tup [tH x2 y2 z2 w2,N e2]))
    (q:V3) (c_x:e1=0→e2=0→Ax.Pure Tryz.prog G 80 [tH x y z w,tH x1 y1 z1 w1,tH x2 y2 z2 w2] (.tup [txV q,N e3])) (hq:e3=7∨e3=0∧q=a) :
    Ax.Pure Tryz.prog G 14 [txF a b c d] (Bo true):=by
  have c_aw:=c_awake
  refine zen Tryz.func14 rfl Tryz.ntmps14 ?_
  intro w0 E0 hc
  repeat' (first|(with_reducible first|refine Wp_seq ?_|refine zr0 hc ?_|refine zm0 hc ?_|refine zwk ?_|refine Wp_block ?_|refine zgo ?_|refine zbn ?_|refine zge Tryz.results14 ?_|refine Sub.refl _|refine allP_nil|refine zoa1 (out':=?_) ?_|refine zca1 (y:=?_) ?_|refine zea1 (eo':=?_) ?_)|(with_reducible refine allP_cons ?_ ?_;focus (first|decide|omega))|(with_reducible first|refine zg2 ?_ ?_|refine zoc c_aw ?_ ?_|refine zbo ?_|refine zg3 ?_ (fun h=>?_) (fun h=>?_)|refine zg4 (fun h=>?_) (fun h=>?_)|fail)|((first|omega|(refine absurd ?_ h;decide)|(refine nf1 ?_;with_reducible assumption)|(refine nf2 ?_;with_reducible assumption)|(exfalso;simp [beq_bs] at h;done)|fail);done))
  refine Wp_loopI (α:=Nat) (fun i=>stOf [(1,.one (.ptr 0 12 0 0)),(3,N i)] [(0,⟨12,1,fun _=> [.v (.string (bs a.1)),.v (.string (bs a.2.1)),.v (.string (bs a.2.2)),.v (.string (bs b.1)),.v (.string (bs b.2.1)),.v (.string (bs b.2.2)),.v (.string (bs c.1)),.v (.string (bs c.2.1)),.v (.string (bs c.2.2)),.v (.string (bs d.1)),.v (.string (bs d.2.1)),.v (.string (bs d.2.2))],false⟩)] 1) (fun i=>i≤4) (fun i=>4 - i) 0 (Nat.zero_le _) ?_ ?_
  · refine zwa1 (l1:=?_) (h1:=?_) ?_ ?_ <;> (repeat' (first|(with_reducible first|exact slotsOk_nil|exact boxesOk_nil|refine slotsOk_eq ?_ ?_|refine slotsOk_cons ?_ ?_ ?_|refine boxesOk_one rfl ?_ ?_ ?_|refine boxesOk_cons rfl (fun i hi=>?_) ?_ (fun i hi=>?_) ?_|refine sub_int ?_|refine sub_own_eq ?_ ?_|refine sub_gr_eq ?_ ?_|exact sub_nil_gr|exact sub_own_gr)|(first|omega|(simp only [IntKind.wrap_i64,IntKind.wrap_u64,List.length_append,List.length_singleton,List.length_cons,List.length_nil];omega))|((first|show AV.cl _ _|show clL _ _);simp [AV.cl,clL,Leaf.cl,clV];done)|(dsimp only [ite00];done)|(with_reducible first|exact SubLv.refl _|refine subLv_int ?_ ?_|refine subLv_frac ?_ ?_)|(dsimp only [ite00];with_reducible exact SubLv.refl _)|fail))
  · intro i hi
    rcases (by omega:i=0∨i=1∨i=2∨i=3∨i=4) with rfl|rfl|rfl|rfl|rfl
    · repeat' (first|(with_reducible first|refine Wp_seq ?_|refine zr0 hc ?_|refine zm0 hc ?_|refine zwk ?_|refine Wp_block ?_|refine zgo ?_|refine zbn ?_|refine zge Tryz.results14 ?_|refine Sub.refl _|refine allP_nil|refine zoa1 (out':=?_) ?_|refine zca1 (y:=?_) ?_|refine zea1 (eo':=?_) ?_)|(with_reducible refine allP_cons ?_ ?_;focus (first|decide|omega))|(with_reducible first|refine zg2 ?_ ?_|refine zoc c_f0 ?_ ?_|refine zbo ?_|refine zg3 ?_ (fun h=>?_) (fun h=>?_)|refine zg4 (fun h=>?_) (fun h=>?_)|fail)|((first|omega|(refine absurd ?_ h;decide)|(refine nf1 ?_;with_reducible assumption)|(refine nf2 ?_;with_reducible assumption)|(exfalso;simp [beq_bs] at h;done)|fail);done))
      · refine ⟨1,by omega,by omega,?_⟩
        refine zwa1 (l1:=?_) (h1:=?_) ?_ ?_ <;> (repeat' (first|(with_reducible first|exact slotsOk_nil|exact boxesOk_nil|refine slotsOk_eq ?_ ?_|refine slotsOk_cons ?_ ?_ ?_|refine boxesOk_one rfl ?_ ?_ ?_|refine boxesOk_cons rfl (fun i hi=>?_) ?_ (fun i hi=>?_) ?_|refine sub_int ?_|refine sub_own_eq ?_ ?_|refine sub_gr_eq ?_ ?_|exact sub_nil_gr|exact sub_own_gr)|(first|omega|(simp only [IntKind.wrap_i64,IntKind.wrap_u64,List.length_append,List.length_singleton,List.length_cons,List.length_nil];omega))|((first|show AV.cl _ _|show clL _ _);simp [AV.cl,clL,Leaf.cl,clV];done)|(dsimp only [ite00];done)|(with_reducible first|exact SubLv.refl _|refine subLv_int ?_ ?_|refine subLv_frac ?_ ?_)|(dsimp only [ite00];with_reducible exact SubLv.refl _)|fail))
    · repeat' (first|(with_reducible first|refine Wp_seq ?_|refine zr0 hc ?_|refine zm0 hc ?_|refine zwk ?_|refine Wp_block ?_|refine zgo ?_|refine zbn ?_|refine zge Tryz.results14 ?_|refine Sub.refl _|refine allP_nil|refine zoa1 (out':=?_) ?_|refine zca1 (y:=?_) ?_|refine zea1 (eo':=?_) ?_)|(with_reducible refine allP_cons ?_ ?_;focus (first|decide|omega))|(with_reducible first|refine zg2 ?_ ?_|refine zoc c_f1 ?_ ?_|refine zbo ?_|refine zg3 ?_ (fun h=>?_) (fun h=>?_)|refine zg4 (fun h=>?_) (fun h=>?_)|fail)|((first|omega|(refine absurd ?_ h;decide)|(refine nf1 ?_;with_reducible assumption)|(refine nf2 ?_;with_reducible assumption)|(exfalso;simp [beq_bs] at h;done)|fail);done))
      · refine ⟨2,by omega,by omega,?_⟩
        refine zwa1 (l1:=?_) (h1:=?_) ?_ ?_ <;> (repeat' (first|(with_reducible first|exact slotsOk_nil|exact boxesOk_nil|refine slotsOk_eq ?_ ?_|refine slotsOk_cons ?_ ?_ ?_|refine boxesOk_one rfl ?_ ?_ ?_|refine boxesOk_cons rfl (fun i hi=>?_) ?_ (fun i hi=>?_) ?_|refine sub_int ?_|refine sub_own_eq ?_ ?_|refine sub_gr_eq ?_ ?_|exact sub_nil_gr|exact sub_own_gr)|(first|omega|(simp only [IntKind.wrap_i64,IntKind.wrap_u64,List.length_append,List.length_singleton,List.length_cons,List.length_nil];omega))|((first|show AV.cl _ _|show clL _ _);simp [AV.cl,clL,Leaf.cl,clV];done)|(dsimp only [ite00];done)|(with_reducible first|exact SubLv.refl _|refine subLv_int ?_ ?_|refine subLv_frac ?_ ?_)|(dsimp only [ite00];with_reducible exact SubLv.refl _)|fail))
    · repeat' (first|(with_reducible first|refine Wp_seq ?_|refine zr0 hc ?_|refine zm0 hc ?_|refine zwk ?_|refine Wp_block ?_|refine zgo ?_|refine zbn ?_|refine zge Tryz.results14 ?_|refine Sub.refl _|refine allP_nil|refine zoa1 (out':=?_) ?_|refine zca1 (y:=?_) ?_|refine zea1 (eo':=?_) ?_)|(with_reducible refine allP_cons ?_ ?_;focus (first|decide|omega))|(with_reducible first|refine zg2 ?_ ?_|refine zoc c_f2 ?_ ?_|refine zbo ?_|refine zg3 ?_ (fun h=>?_) (fun h=>?_)|refine zg4 (fun h=>?_) (fun h=>?_)|fail)|((first|omega|(refine absurd ?_ h;decide)|(refine nf1 ?_;with_reducible assumption)|(refine nf2 ?_;with_reducible assumption)|(exfalso;simp [beq_bs] at h;done)|fail);done))
      · refine ⟨3,by omega,by omega,?_⟩
        refine zwa1 (l1:=?_) (h1:=?_) ?_ ?_ <;> (repeat' (first|(with_reducible first|exact slotsOk_nil|exact boxesOk_nil|refine slotsOk_eq ?_ ?_|refine slotsOk_cons ?_ ?_ ?_|refine boxesOk_one rfl ?_ ?_ ?_|refine boxesOk_cons rfl (fun i hi=>?_) ?_ (fun i hi=>?_) ?_|refine sub_int ?_|refine sub_own_eq ?_ ?_|refine sub_gr_eq ?_ ?_|exact sub_nil_gr|exact sub_own_gr)|(first|omega|(simp only [IntKind.wrap_i64,IntKind.wrap_u64,List.length_append,List.length_singleton,List.length_cons,List.length_nil];omega))|((first|show AV.cl _ _|show clL _ _);simp [AV.cl,clL,Leaf.cl,clV];done)|(dsimp only [ite00];done)|(with_reducible first|exact SubLv.refl _|refine subLv_int ?_ ?_|refine subLv_frac ?_ ?_)|(dsimp only [ite00];with_reducible exact SubLv.refl _)|fail))
    · repeat' (first|(with_reducible first|refine Wp_seq ?_|refine zr0 hc ?_|refine zm0 hc ?_|refine zwk ?_|refine Wp_block ?_|refine zgo ?_|refine zbn ?_|refine zge Tryz.results14 ?_|refine Sub.refl _|refine allP_nil|refine zoa1 (out':=?_) ?_|refine zca1 (y:=?_) ?_|refine zea1 (eo':=?_) ?_)|(with_reducible refine allP_cons ?_ ?_;focus (first|decide|omega))|(with_reducible first|refine zg2 ?_ ?_|refine zoc c_f3 ?_ ?_|refine zbo ?_|refine zg3 ?_ (fun h=>?_) (fun h=>?_)|refine zg4 (fun h=>?_) (fun h=>?_)|fail)|((first|omega|(refine absurd ?_ h;decide)|(refine nf1 ?_;with_reducible assumption)|(refine nf2 ?_;with_reducible assumption)|(exfalso;simp [beq_bs] at h;done)|fail);done))
      · refine ⟨4,by omega,by omega,?_⟩
        refine zwa1 (l1:=?_) (h1:=?_) ?_ ?_ <;> (repeat' (first|(with_reducible first|exact slotsOk_nil|exact boxesOk_nil|refine slotsOk_eq ?_ ?_|refine slotsOk_cons ?_ ?_ ?_|refine boxesOk_one rfl ?_ ?_ ?_|refine boxesOk_cons rfl (fun i hi=>?_) ?_ (fun i hi=>?_) ?_|refine sub_int ?_|refine sub_own_eq ?_ ?_|refine sub_gr_eq ?_ ?_|exact sub_nil_gr|exact sub_own_gr)|(first|omega|(simp only [IntKind.wrap_i64,IntKind.wrap_u64,List.length_append,List.length_singleton,List.length_cons,List.length_nil];omega))|((first|show AV.cl _ _|show clL _ _);simp [AV.cl,clL,Leaf.cl,clV];done)|(dsimp only [ite00];done)|(with_reducible first|exact SubLv.refl _|refine subLv_int ?_ ?_|refine subLv_frac ?_ ?_)|(dsimp only [ite00];with_reducible exact SubLv.refl _)|fail))
    · repeat' (first|(with_reducible first|refine Wp_seq ?_|refine zr0 hc ?_|refine zm0 hc ?_|refine zwk ?_|refine Wp_block ?_|refine zgo ?_|refine zbn ?_|refine zge Tryz.results14 ?_|refine Sub.refl _|refine allP_nil|refine zoa1 (out':=?_) ?_|refine zca1 (y:=?_) ?_|refine zea1 (eo':=?_) ?_)|(with_reducible refine allP_cons ?_ ?_;focus (first|decide|omega))|(with_reducible first|refine zg2 ?_ ?_|refine zoc c_t ?_ ?_|refine zoc c_u ?_ ?_|refine zoc c_o ?_ ?_|refine zoc c_kh ?_ ?_|refine zbo ?_|refine zg3 ?_ (fun h=>?_) (fun h=>?_)|refine zg4 (fun h=>?_) (fun h=>?_)|fail)|((first|omega|(refine absurd ?_ h;decide)|(refine nf1 ?_;with_reducible assumption)|(refine nf2 ?_;with_reducible assumption)|(exfalso;simp [beq_bs] at h;done)|fail);done))
      refine Wp_loopI (α:=Nat) (fun i=>stOf [(1,.one (.ptr 0 12 0 0)),(4,.one (.ptr 1 4 0 0)),(8,.one (.ptr 3 4 0 0)),(10,N i)] [(0,⟨12,1,fun _=> [.v (.string (bs a.1)),.v (.string (bs a.2.1)),.v (.string (bs a.2.2)),.v (.string (bs b.1)),.v (.string (bs b.2.1)),.v (.string (bs b.2.2)),.v (.string (bs c.1)),.v (.string (bs c.2.1)),.v (.string (bs c.2.2)),.v (.string (bs d.1)),.v (.string (bs d.2.1)),.v (.string (bs d.2.2))],false⟩),(1,⟨4,1,fun _=> [.v (.int .i64 x),.v (.int .i64 y),.v (.int .i64 z),.v (.string (bs w))],false⟩),(3,⟨4,1,fun _=> [.v (.int .i64 (-x)),.v (.int .i64 (-y)),.v (.int .i64 (-z)),.v (.string (bs w'))],false⟩)] 4) (fun i=>i≤3) (fun i=>3 - i) 0 (Nat.zero_le _) ?_ ?_
      · refine zwa1 (l1:=?_) (h1:=?_) ?_ ?_ <;> (repeat' (first|(with_reducible first|exact slotsOk_nil|exact boxesOk_nil|refine slotsOk_eq ?_ ?_|refine slotsOk_cons ?_ ?_ ?_|refine boxesOk_one rfl ?_ ?_ ?_|refine boxesOk_cons rfl (fun i hi=>?_) ?_ (fun i hi=>?_) ?_|refine sub_int ?_|refine sub_own_eq ?_ ?_|refine sub_gr_eq ?_ ?_|exact sub_nil_gr|exact sub_own_gr)|(first|omega|(simp only [IntKind.wrap_i64,IntKind.wrap_u64,List.length_append,List.length_singleton,List.length_cons,List.length_nil];omega))|((first|show AV.cl _ _|show clL _ _);simp [AV.cl,clL,Leaf.cl,clV];done)|(dsimp only [ite00];done)|(with_reducible first|exact SubLv.refl _|refine subLv_int ?_ ?_|refine subLv_frac ?_ ?_)|(dsimp only [ite00];with_reducible exact SubLv.refl _)|fail))
      · intro i hi
        rcases (by omega:i=0∨i=1∨i=2∨i=3) with rfl|rfl|rfl|rfl
        · repeat' (first|(with_reducible first|refine Wp_seq ?_|refine zr0 hc ?_|refine zm0 hc ?_|refine zwk ?_|refine Wp_block ?_|refine zgo ?_|refine zbn ?_|refine zge Tryz.results14 ?_|refine Sub.refl _|refine allP_nil|refine zoa1 (out':=?_) ?_|refine zca1 (y:=?_) ?_|refine zea1 (eo':=?_) ?_)|(with_reducible refine allP_cons ?_ ?_;focus (first|decide|omega))|(with_reducible first|refine zg2 ?_ ?_|refine zoc c_s0 ?_ ?_|refine zoc c_n ?_ ?_|refine zoc c_m0 ?_ ?_|refine zoc c_t0 ?_ ?_|refine zoc c_u0 ?_ ?_|refine zbo ?_|refine zg3 ?_ (fun h=>?_) (fun h=>?_)|refine zg4 (fun h=>?_) (fun h=>?_)|fail)|((first|omega|(refine absurd ?_ h;decide)|(refine nf1 ?_;with_reducible assumption)|(refine nf2 ?_;with_reducible assumption)|(exfalso;simp [beq_bs] at h;done)|fail);done))
          · refine ⟨1,by omega,by omega,?_⟩
            refine zwa1 (l1:=?_) (h1:=?_) ?_ ?_ <;> (repeat' (first|(with_reducible first|exact slotsOk_nil|exact boxesOk_nil|refine slotsOk_eq ?_ ?_|refine slotsOk_cons ?_ ?_ ?_|refine boxesOk_one rfl ?_ ?_ ?_|refine boxesOk_cons rfl (fun i hi=>?_) ?_ (fun i hi=>?_) ?_|refine sub_int ?_|refine sub_own_eq ?_ ?_|refine sub_gr_eq ?_ ?_|exact sub_nil_gr|exact sub_own_gr)|(first|omega|(simp only [IntKind.wrap_i64,IntKind.wrap_u64,List.length_append,List.length_singleton,List.length_cons,List.length_nil];omega))|((first|show AV.cl _ _|show clL _ _);simp [AV.cl,clL,Leaf.cl,clV];done)|(dsimp only [ite00];done)|(with_reducible first|exact SubLv.refl _|refine subLv_int ?_ ?_|refine subLv_frac ?_ ?_)|(dsimp only [ite00];with_reducible exact SubLv.refl _)|fail))
        · repeat' (first|(with_reducible first|refine Wp_seq ?_|refine zr0 hc ?_|refine zm0 hc ?_|refine zwk ?_|refine Wp_block ?_|refine zgo ?_|refine zbn ?_|refine zge Tryz.results14 ?_|refine Sub.refl _|refine allP_nil|refine zoa1 (out':=?_) ?_|refine zca1 (y:=?_) ?_|refine zea1 (eo':=?_) ?_)|(with_reducible refine allP_cons ?_ ?_;focus (first|decide|omega))|(with_reducible first|refine zg2 ?_ ?_|refine zoc c_s1 ?_ ?_|refine zoc c_n ?_ ?_|refine zoc c_m1 ?_ ?_|refine zoc c_t1 ?_ ?_|refine zoc c_u1 ?_ ?_|refine zbo ?_|refine zg3 ?_ (fun h=>?_) (fun h=>?_)|refine zg4 (fun h=>?_) (fun h=>?_)|fail)|((first|omega|(refine absurd ?_ h;decide)|(refine nf1 ?_;with_reducible assumption)|(refine nf2 ?_;with_reducible assumption)|(exfalso;simp [beq_bs] at h;done)|fail);done))
          · refine ⟨2,by omega,by omega,?_⟩
            refine zwa1 (l1:=?_) (h1:=?_) ?_ ?_ <;> (repeat' (first|(with_reducible first|exact slotsOk_nil|exact boxesOk_nil|refine slotsOk_eq ?_ ?_|refine slotsOk_cons ?_ ?_ ?_|refine boxesOk_one rfl ?_ ?_ ?_|refine boxesOk_cons rfl (fun i hi=>?_) ?_ (fun i hi=>?_) ?_|refine sub_int ?_|refine sub_own_eq ?_ ?_|refine sub_gr_eq ?_ ?_|exact sub_nil_gr|exact sub_own_gr)|(first|omega|(simp only [IntKind.wrap_i64,IntKind.wrap_u64,List.length_append,List.length_singleton,List.length_cons,List.length_nil];omega))|((first|show AV.cl _ _|show clL _ _);simp [AV.cl,clL,Leaf.cl,clV];done)|(dsimp only [ite00];done)|(with_reducible first|exact SubLv.refl _|refine subLv_int ?_ ?_|refine subLv_frac ?_ ?_)|(dsimp only [ite00];with_reducible exact SubLv.refl _)|fail))
        · repeat' (first|(with_reducible first|refine Wp_seq ?_|refine zr0 hc ?_|refine zm0 hc ?_|refine zwk ?_|refine Wp_block ?_|refine zgo ?_|refine zbn ?_|refine zge Tryz.results14 ?_|refine Sub.refl _|refine allP_nil|refine zoa1 (out':=?_) ?_|refine zca1 (y:=?_) ?_|refine zea1 (eo':=?_) ?_)|(with_reducible refine allP_cons ?_ ?_;focus (first|decide|omega))|(with_reducible first|refine zg2 ?_ ?_|refine zoc c_s2 ?_ ?_|refine zoc c_n ?_ ?_|refine zoc c_m2 ?_ ?_|refine zoc c_t2 ?_ ?_|refine zoc c_u2 ?_ ?_|refine zbo ?_|refine zg3 ?_ (fun h=>?_) (fun h=>?_)|refine zg4 (fun h=>?_) (fun h=>?_)|fail)|((first|omega|(refine absurd ?_ h;decide)|(refine nf1 ?_;with_reducible assumption)|(refine nf2 ?_;with_reducible assumption)|(exfalso;simp [beq_bs] at h;done)|fail);done))
          · refine ⟨3,by omega,by omega,?_⟩
            refine zwa1 (l1:=?_) (h1:=?_) ?_ ?_ <;> (repeat' (first|(with_reducible first|exact slotsOk_nil|exact boxesOk_nil|refine slotsOk_eq ?_ ?_|refine slotsOk_cons ?_ ?_ ?_|refine boxesOk_one rfl ?_ ?_ ?_|refine boxesOk_cons rfl (fun i hi=>?_) ?_ (fun i hi=>?_) ?_|refine sub_int ?_|refine sub_own_eq ?_ ?_|refine sub_gr_eq ?_ ?_|exact sub_nil_gr|exact sub_own_gr)|(first|omega|(simp only [IntKind.wrap_i64,IntKind.wrap_u64,List.length_append,List.length_singleton,List.length_cons,List.length_nil];omega))|((first|show AV.cl _ _|show clL _ _);simp [AV.cl,clL,Leaf.cl,clV];done)|(dsimp only [ite00];done)|(with_reducible first|exact SubLv.refl _|refine subLv_int ?_ ?_|refine subLv_frac ?_ ?_)|(dsimp only [ite00];with_reducible exact SubLv.refl _)|fail))
        · by_cases g1:e1=0
          rotate_left
          · repeat' (first|(with_reducible first|refine Wp_seq ?_|refine zr0 hc ?_|refine zm0 hc ?_|refine zwk ?_|refine Wp_block ?_|refine zgo ?_|refine zbn ?_|refine zge Tryz.results14 ?_|refine Sub.refl _|refine allP_nil|refine zoa1 (out':=?_) ?_|refine zca1 (y:=?_) ?_|refine zea1 (eo':=?_) ?_)|(with_reducible refine allP_cons ?_ ?_;focus (first|decide|omega))|(with_reducible first|refine zg2 ?_ ?_|refine zoc c_a ?_ ?_|refine zoc c_b ?_ ?_|refine zbo ?_|refine zg3 ?_ (fun h=>?_) (fun h=>?_)|refine zg4 (fun h=>?_) (fun h=>?_)|fail)|((first|omega|(refine absurd ?_ h;decide)|(refine nf1 ?_;with_reducible assumption)|(refine nf2 ?_;with_reducible assumption)|(exfalso;simp [beq_bs] at h;done)|fail);done))
          by_cases g2:e2=0
          rotate_left
          · repeat' (first|(with_reducible first|refine Wp_seq ?_|refine zr0 hc ?_|refine zm0 hc ?_|refine zwk ?_|refine Wp_block ?_|refine zgo ?_|refine zbn ?_|refine zge Tryz.results14 ?_|refine Sub.refl _|refine allP_nil|refine zoa1 (out':=?_) ?_|refine zca1 (y:=?_) ?_|refine zea1 (eo':=?_) ?_)|(with_reducible refine allP_cons ?_ ?_;focus (first|decide|omega))|(with_reducible first|refine zg2 ?_ ?_|refine zoc c_a ?_ ?_|refine zoc c_b ?_ ?_|refine zbo ?_|refine zg3 ?_ (fun h=>?_) (fun h=>?_)|refine zg4 (fun h=>?_) (fun h=>?_)|fail)|((first|omega|(refine absurd ?_ h;decide)|(refine nf1 ?_;with_reducible assumption)|(refine nf2 ?_;with_reducible assumption)|(exfalso;simp [beq_bs] at h;done)|fail);done))
          have c_y:=c_x g1 g2
          clear c_x
          subst g1 g2
          rcases hq with rfl|⟨rfl,rfl⟩
          · repeat' (first|(with_reducible first|refine Wp_seq ?_|refine zr0 hc ?_|refine zm0 hc ?_|refine zwk ?_|refine Wp_block ?_|refine zgo ?_|refine zbn ?_|refine zge Tryz.results14 ?_|refine Sub.refl _|refine allP_nil|refine zoa1 (out':=?_) ?_|refine zca1 (y:=?_) ?_|refine zea1 (eo':=?_) ?_)|(with_reducible refine allP_cons ?_ ?_;focus (first|decide|omega))|(with_reducible first|refine zg2 ?_ ?_|refine zoc c_a ?_ ?_|refine zoc c_b ?_ ?_|refine zoc c_y ?_ ?_|refine zbo ?_|refine zg3 ?_ (fun h=>?_) (fun h=>?_)|refine zg4 (fun h=>?_) (fun h=>?_)|fail)|((first|omega|(refine absurd ?_ h;decide)|(refine nf1 ?_;with_reducible assumption)|(refine nf2 ?_;with_reducible assumption)|(exfalso;simp [beq_bs] at h;done)|fail);done))
          · repeat' (first|(with_reducible first|refine Wp_seq ?_|refine zr0 hc ?_|refine zm0 hc ?_|refine zwk ?_|refine Wp_block ?_|refine zgo ?_|refine zbn ?_|refine zge Tryz.results14 ?_|refine Sub.refl _|refine allP_nil|refine zoa1 (out':=?_) ?_|refine zca1 (y:=?_) ?_|refine zea1 (eo':=?_) ?_)|(with_reducible refine allP_cons ?_ ?_;focus (first|decide|omega))|(with_reducible first|refine zg2 ?_ ?_|refine zoc c_a ?_ ?_|refine zoc c_b ?_ ?_|refine zoc c_y ?_ ?_|refine zbo ?_|refine zg3 ?_ (fun h=>?_) (fun h=>?_)|refine zg4 (fun h=>?_) (fun h=>?_)|fail)|((first|omega|(refine absurd ?_ h;decide)|(refine nf1 ?_;with_reducible assumption)|(refine nf2 ?_;with_reducible assumption)|(exfalso;simp [beq_bs] at h;done)|fail);done))
            all_goals exact sub_eq (congrArg Bo (by simp [beq_bs]))
theorem dpos {a b c:Rat} (h:dot3 a b c a b c≠0):0 < dot3 a b c a b c:=by
  have h1:=sq_nn a
  have h2:=sq_nn b
  have h3:=sq_nn c
  unfold dot3 at h ⊢;grind
theorem sd_0 {x y z a b c w:Rat} (h:dot3 x y z a b c=w):dot3 x y z a b c - w=0:=by rw [h];grind
theorem sd_1 {x y z a b c w:Rat} (h:dot3 x y z a b c=w):dot3 x y z (a+x) (b+y) (c+z) - w=dot3 x y z x y z:=by subst h;unfold dot3;grind
theorem sd_2 {x y z a b c w:Rat} (h:dot3 x y z a b c=w):dot3 (-x) (-y) (-z) (a+x) (b+y) (c+z) - -w= -dot3 x y z x y z:=by subst h;unfold dot3;grind
theorem u4 {x y z:Int} {w a b c:Rat} (hh:okH x y z w) (qp:Q 20 a∧Q 20 b∧Q 20 c) (op:okV a b c) (h:dot3 (x:Rat) (y:Rat) (z:Rat) a b c=w) :
    Ax.Pure Tryz.prog G 42 [tH x y z (ratL w),tV (ratL a) (ratL b) (ratL c)] (.tup [N 0,N 0])∧Ax.Pure Tryz.prog G 84 [tV (ratL a) (ratL b) (ratL c),tV (ratL (x:Rat)) (ratL (y:Rat)) (ratL (z:Rat))] (tV (ratL (a+(x:Rat))) (ratL (b+(y:Rat))) (ratL (c+(z:Rat))))∧
    Ax.Pure Tryz.prog G 42 [tH x y z (ratL w),tV (ratL (a+(x:Rat))) (ratL (b+(y:Rat))) (ratL (c+(z:Rat)))] (.tup [N 1,N 0])∧Ax.Pure Tryz.prog G 42 [tH (-x) (-y) (-z) (ratL (-w)),tV (ratL (a+(x:Rat))) (ratL (b+(y:Rat))) (ratL (c+(z:Rat)))] (.tup [N (-1),N 0]):=by
  have hp:=dpos (dot_pos (okH_ne hh))
  have k:∀{v:Int},okI v→Q 30 (v:Rat):=fun h=>Q_le (k:=29) (n:=999999999) (by have:=h.1;have:=h.2;omega) rfl
  have qx:=k hh.1.1
  have qy:=k hh.1.2.1
  have qz:=k hh.1.2.2
  have om:=a39 (Q_of (Q_add qp.1 qx) rfl) (Q_of (Q_add qp.2.1 qy) rfl) (Q_of (Q_add qp.2.2 qz) rfl)
  have s0:=s_Side x y z w hh a b c op
  have s1:=s_Side x y z w hh _ _ _ om
  have s2:=s_Side (-x) (-y) (-z) (-w) (a0g hh) _ _ _ om
  rw [sd_0 h] at s0
  rw [sd_1 h,a02 hp] at s1
  rw [Rat.intCast_neg,Rat.intCast_neg,Rat.intCast_neg,sd_2 h,a00 (by grind)] at s2
  exact ⟨s0,a26 (k:=30) (by decide) a b c _ _ _ ⟨Q_of qp.1 rfl,Q_of qp.2.1 rfl,Q_of qp.2.2 rfl⟩ ⟨qx,qy,qz⟩,s1,s2⟩
theorem a4l (a b c d:V3):Ax.Pure Tryz.prog G 14 [txF a b c d] (Bo true):=by
  obtain ⟨t1,c_1,g1⟩:=a2f a 5 (by decide)
  obtain ⟨t2,c_2,g2⟩:=a2f b 5 (by decide)
  obtain ⟨t3,c_3,g3⟩:=a2f c 5 (by decide)
  obtain ⟨t4,c_4,g4⟩:=a2f d 5 (by decide)
  by_cases h4:t1=true∧t2=true∧t3=true∧t4=true
  rotate_left
  · refine a04 a b c d (fun j=> [t1,t2,t3,t4].getD j true) ?_ c_1 c_2 c_3 c_4
    cases t1
    · exact ⟨0,by decide,rfl⟩
    cases t2
    · exact ⟨1,by decide,rfl⟩
    cases t3
    · exact ⟨2,by decide,rfl⟩
    cases t4
    · exact ⟨3,by decide,rfl⟩
    exact absurd ⟨rfl,rfl,rfl,rfl⟩ h4
  obtain ⟨rfl,rfl,rfl,rfl⟩:=h4
  obtain ⟨a1,a2,a3,rfl,oa,qa⟩:=g1 rfl
  obtain ⟨b1,b2,b3,rfl,ob,qb⟩:=g2 rfl
  obtain ⟨d1,d2,d3,rfl,od,qd⟩:=g3 rfl
  obtain ⟨p1,p2,p3,rfl,op,qp⟩:=g4 rfl
  rcases a0f a1 a2 a3 b1 b2 b3 d1 d2 d3 oa ob od with ⟨e,he,h⟩|⟨x,y,z,w,hh,k1,k2,k3,h,hr⟩
  · exact a0t _ _ _ _ e he c_1 c_2 c_3 c_4 h
  obtain ⟨s0,m0,u0,v0⟩:=u4 hh qa oa k1
  obtain ⟨s1,m1,u1,v1⟩:=u4 hh qb ob k2
  obtain ⟨s2,m2,u2,v2⟩:=u4 hh qd od k3
  have kh:=a30 x y z _ (ok_len hh.2.2)
  rw [okH_chk hh] at kh
  obtain ⟨x1,y1,z1,w1,e1,t1,f1⟩:=a0p a1 a2 a3 b1 b2 b3 p1 p2 p3 oa ob op
  obtain ⟨x2,y2,z2,w2,e2,t2,f2⟩:=a0p a1 a2 a3 d1 d2 d3 p1 p2 p3 oa od op
  have cn:=a18 x y z (ratL w) (okI_i64 hh.1.1) (okI_i64 hh.1.2.1) (okI_i64 hh.1.2.2)
  have go:=fun (q:V3) (e3:Int) cx hq=>a0w (v3 a1 a2 a3) (v3 b1 b2 b3) (v3 d1 d2 d3) (v3 p1 p2 p3) x y z (ratL w) c_1 c_2 c_3 c_4 h (ratL (-w)) hr (a0b x y z w hh) kh (v3 (x:Rat) (y:Rat) (z:Rat)) cn
    (fun i=> [v3 (a1+(x:Rat)) (a2+(y:Rat)) (a3+(z:Rat)),v3 (b1+(x:Rat)) (b2+(y:Rat)) (b3+(z:Rat)),v3 (d1+(x:Rat)) (d2+(y:Rat)) (d3+(z:Rat))].getD i (v3 0 0 0)) s0 m0 u0 v0 s1 m1 u1 v1 s2 m2 u2 v2 x1 y1 z1 x2 y2 z2 e1 e2 e3 w1 w2 t1 t2 q cx hq
  by_cases h1:e1=0∧e2=0
  · obtain ⟨q1,rfl,hh1,n1⟩:=f1 h1.1
    obtain ⟨q2,rfl,hh2,n2⟩:=f2 h1.2
    rcases cr_at x y z w hh x1 y1 z1 q1 hh1 x2 y2 z2 q2 hh2 a1 a2 a3 oa k1 n1 n2 with g|g
    · exact go ([],[],[]) 7 (fun _ _=>g) (.inl rfl)
    · exact go (v3 a1 a2 a3) 0 (fun _ _=>g) (.inr ⟨rfl,rfl⟩)
  · exact go ([],[],[]) 7 (fun i j=>absurd ⟨i,j⟩ h1) (.inl rfl)
end Go.Proofs
end
