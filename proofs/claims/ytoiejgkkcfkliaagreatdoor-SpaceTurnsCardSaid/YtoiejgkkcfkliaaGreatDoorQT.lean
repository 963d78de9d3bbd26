/- Lemmas on the program and its library: part QT. -/
import Derived.Test.YtoiejgkkcfkliaaGreatDoorQS
import Derived.Test.YtoiejgkkcfkliaaGreatDoorQTW
set_option linter.unusedVariables false
set_option linter.unusedSimpArgs false
section
set_option maxHeartbeats 4000000
set_option maxRecDepth 100000
namespace Go.Proofs
open Go.Ax
theorem r_Square {k:Nat} (hk:k≤200000) (a1 a2 a3:Rat) (qa:Q k a1∧Q k a2∧Q k a3):Ax.Pure Tryz.prog G 57 [tV (ratL a1) (ratL a2) (ratL a3)] (S (bs (ratL (dot3 a1 a2 a3 a1 a2 a3)))):=by
  have c_d:=r_Dot hk a1 a2 a3 a1 a2 a3 qa qa
  refine zen Tryz.func57 rfl Tryz.ntmps57 ?_
  intro w0 E0 hc
  repeat' (first|refine zR1 hc Tryz.results57 ?_|(with_reducible first|exact trivial|refine zan ?_ ?_|refine zim (fun h=>?_)|refine zoc c_d ?_ ?_|fail)|(omega;done))
theorem r_Stretch {k:Nat} (hk:k≤200000) (o1 o2 o3 x1 x2 x3 y1 y2 y3 z1 z2 z3:Rat) (qx:Q k x1∧Q k x2∧Q k x3) (qy:Q k y1∧Q k y2∧Q k y3) (qz:Q k z1∧Q k z2∧Q k z3):Ax.Pure Tryz.prog G 71 [tF (ratL o1) (ratL o2) (ratL o3) (ratL x1) (ratL x2) (ratL x3) (ratL y1) (ratL y2) (ratL y3) (ratL z1) (ratL z2) (ratL z3)] (tV (ratL (dot3 x1 x2 x3 x1 x2 x3)) (ratL (dot3 y1 y2 y3 y1 y2 y3)) (ratL (dot3 z1 z2 z3 z1 z2 z3))):=by
  have c_x:=r_Square hk x1 x2 x3 qx
  have c_y:=r_Square hk y1 y2 y3 qy
  have c_z:=r_Square hk z1 z2 z3 qz
  refine zen Tryz.func71 rfl Tryz.ntmps71 ?_
  intro w0 E0 hc
  repeat' (first|refine zR1 hc Tryz.results71 ?_|(with_reducible first|exact trivial|refine zan ?_ ?_|refine zim (fun h=>?_)|refine zoc c_x ?_ ?_|refine zoc c_y ?_ ?_|refine zoc c_z ?_ ?_|fail)|(omega;done))
end Go.Proofs
end
section
namespace Go.Proofs
open Go.Ax
theorem rat_beq (a b:Rat):((bs (ratL a)).toList == (bs (ratL b)).toList)=decide (a=b):=by
  rw [bs_beq]
  exact decide_eq_decide.2 ⟨ratL_inj,fun h=>h ▸ rfl⟩
end Go.Proofs
end
section
namespace Go.Proofs
open Go.Ax
abbrev tFt (t:Nat→List UInt8):AV:=tF (t 0) (t 1) (t 2) (t 3) (t 4) (t 5) (t 6) (t 7) (t 8) (t 9) (t 10) (t 11)
def frT (o1 o2 o3 x1 x2 x3 y1 y2 y3 z1 z2 z3:Rat):Nat→List UInt8:=fun i=>ratL ([o1,o2,o3,x1,x2,x3,y1,y2,y3,z1,z2,z3].getD i 0)
end Go.Proofs
end
section
namespace Go.Proofs
open Go.Ax
theorem dot_e1 (a b c:Rat):dot3 I1 I0 I0 a b c=a:=by show 1*a+0*b+0*c=a;grind
theorem dot_e2 (a b c:Rat):dot3 I0 I1 I0 a b c=b:=by show 0*a+1*b+0*c=b;grind
theorem dot_e3 (a b c:Rat):dot3 I0 I0 I1 a b c=c:=by show 0*a+0*b+1*c=c;grind
end Go.Proofs
end
section
namespace Go.Proofs
open Go.Ax
theorem tu_eq (e s c w' u d r:Rat):(e*s+c*(((2:Int):Rat)*w')+u*(((2:Int):Rat)*d))*r=r*(s*e+2*w'*c+2*d*u):=by show (e*s+c*(2*w')+u*(2*d))*r=_;grind
theorem nm_ne {w u1 u2 u3:Rat} (h:¬(w=0∧u1=0∧u2=0∧u3=0)):w*w+dot3 u1 u2 u3 u1 u2 u3≠0:=fun e=>by
  have h0:=sq_nn w
  have h1:=sq_nn u1
  have h2:=sq_nn u2
  have h3:=sq_nn u3
  have hz:∀{a:Rat},a*a=0→a=0:=fun h=>by grind
  unfold dot3 at e
  exact h ⟨hz (by grind),hz (by grind),hz (by grind),hz (by grind)⟩
end Go.Proofs
end
section
namespace Go.Proofs
open Go.Ax
abbrev txQ (p q r s:List UInt8):AV:=.agg [.v (.string (bs p)),.v (.string (bs q)),.v (.string (bs r)),.v (.string (bs s))]
end Go.Proofs
end
section
set_option maxHeartbeats 4000000
set_option maxRecDepth 100000
namespace Go.Proofs
open Go.Ax
noncomputable def fewT (n:Nat) (hn:n≤1000) (l:List UInt8):Bool:=Classical.choose (r_FewAny l n hn)
theorem r_FewListAny (ls:List (List UInt8)) (m k n:Nat) (hm:m=ls.length) (hk:k≤1000) (hl:m≤k) (hn:n≤1000):∃t:Bool,Ax.Pure Tryz.prog G 70 [rowT ls m,N k,N n] (Bo t)∧(t=true→∀l∈ls,∃q:Rat,l=ratL q∧bigQ q=false∧Q (4*n) q):=by
  have c_a:∀i:Nat,Ax.Pure Tryz.prog G 85 [S (bs (ls.getD i [])),N n] (Bo (fewT n hn (ls.getD i []))):=fun i=>(Classical.choose_spec (r_FewAny (ls.getD i []) n hn)).1
  refine ⟨ls.all (fewT n hn),?_,fun h l hm=>(Classical.choose_spec (r_FewAny l n hn)).2 (List.all_eq_true.1 h l hm)⟩
  refine zen Tryz.func70 rfl Tryz.ntmps70 ?_
  intro w0 E0 hc
  repeat' (first|(with_reducible first|refine Wp_seq ?_|refine zr0 hc ?_|refine zm0 hc ?_|refine zwk ?_|refine Wp_block ?_|refine zgo ?_|refine zbn ?_|refine zge Tryz.results70 ?_|refine Sub.refl _|refine allP_nil|refine zoa1 (out':=?_) ?_|refine zca1 (y:=?_) ?_|refine zea1 (eo':=?_) ?_)|(with_reducible refine allP_cons ?_ ?_;focus (first|decide|omega))|(with_reducible first|refine zg2 ?_ ?_|refine zbo ?_|refine zg3 ?_ (fun h=>?_) (fun h=>?_)|refine zg4 (fun h=>?_) (fun h=>?_)|fail)|(omega;done))
  refine Wp_loopI (α:=Nat) (fun i=>stOf [(0,rowT ls m),(1,N k),(2,N n),(7,N i)] [] 0) (fun i=>i≤ls.length∧ls.all (fewT n hn)=(ls.drop i).all (fewT n hn)) (fun i=>ls.length - i) 0 ⟨Nat.zero_le _,rfl⟩ ?_ ?_
  · refine zW1 ?_ <;> repeat' (with_reducible first|exact trivial|refine zan ?_ ?_|refine zal (fun i hi=>?_))
  · rintro i ⟨h1,h2⟩
    have hd:i < ls.length→(ls.drop i).all (fewT n hn)=(fewT n hn (ls.getD i []) && (ls.drop (i+1)).all (fewT n hn)):=fun h=>by
      rw [List.drop_eq_getElem_cons h,List.all_cons,List.getD_eq_getElem?_getD,List.getElem?_eq_getElem h];rfl
    have c_i:=c_a i
    cases hb:fewT n hn (ls.getD i [])
    · rw [hb] at c_i hd
      simp only [Bool.false_and] at hd
      repeat' (first|(with_reducible first|refine Wp_seq ?_|refine zr0 hc ?_|refine zm0 hc ?_|refine zwk ?_|refine Wp_block ?_|refine zgo ?_|refine zbn ?_|refine zge Tryz.results70 ?_|refine Sub.refl _|refine allP_nil|refine zoa1 (out':=?_) ?_|refine zca1 (y:=?_) ?_|refine zea1 (eo':=?_) ?_)|(with_reducible refine allP_cons ?_ ?_;focus (first|decide|omega))|(with_reducible first|refine zg2 ?_ ?_|refine zoc c_i ?_ ?_|refine zbo ?_|refine zg3 ?_ (fun h=>?_) (fun h=>?_)|refine zg4 (fun h=>?_) (fun h=>?_)|fail)|((first|omega|(simp only [Int.toNat_natCast];omega)|(refine absurd h ?_;decide)|fail);done))
      · rw [h2,hd (by omega)];exact Sub.refl _
      · have:ls.length≤i:=by omega
        rw [List.drop_eq_nil_of_le this] at h2
        rw [h2];exact Sub.refl _
    · rw [hb] at c_i hd
      simp only [Bool.true_and] at hd
      repeat' (first|(with_reducible first|refine Wp_seq ?_|refine zr0 hc ?_|refine zm0 hc ?_|refine zwk ?_|refine Wp_block ?_|refine zgo ?_|refine zbn ?_|refine zge Tryz.results70 ?_|refine Sub.refl _|refine allP_nil|refine zoa1 (out':=?_) ?_|refine zca1 (y:=?_) ?_|refine zea1 (eo':=?_) ?_)|(with_reducible refine allP_cons ?_ ?_;focus (first|decide|omega))|(with_reducible first|refine zg2 ?_ ?_|refine zoc c_i ?_ ?_|refine zbo ?_|refine zg3 ?_ (fun h=>?_) (fun h=>?_)|refine zg4 (fun h=>?_) (fun h=>?_)|fail)|((first|omega|(simp only [Int.toNat_natCast];omega)|(refine absurd h ?_;decide)|fail);done))
      · refine ⟨i+1,⟨by omega,by rw [h2,hd (by omega)]⟩,by omega,?_⟩
        refine zW1 ?_ <;> repeat' (with_reducible first|exact trivial|refine zan ?_ ?_|refine zal (fun i hi=>?_))
      · have:ls.length≤i:=by omega
        rw [List.drop_eq_nil_of_le this] at h2
        rw [h2];exact Sub.refl _
theorem r_FewList4 (a b c d:List UInt8) (n:Nat) (hn:n≤1000):∃t:Bool,Ax.Pure Tryz.prog G 70 [.one (.row 1 4 (fun i=> [[Leaf.v (.string (bs a))],[Leaf.v (.string (bs b))],[Leaf.v (.string (bs c))],[Leaf.v (.string (bs d))]].getD i [])),N 4,N n] (Bo t)∧
    (t=true→∃p q r s:Rat,(a=ratL p∧b=ratL q∧c=ratL r∧d=ratL s)∧(bigQ p=false∧bigQ q=false∧bigQ r=false∧bigQ s=false)∧Q (4*n) p∧Q (4*n) q∧Q (4*n) r∧Q (4*n) s):=by
  obtain ⟨t,h,g⟩:=r_FewListAny [a,b,c,d] 4 4 n rfl (by decide) (by decide) hn
  refine ⟨t,pure_args h ⟨sub_row_eq (row4_lt rfl rfl rfl rfl),⟨Sub.refl _,⟨Sub.refl _,trivial⟩⟩⟩ ⟨trivial,trivial,trivial,trivial⟩,fun ht=>?_⟩
  obtain ⟨p,hp,bp,qp⟩:=g ht a (by simp)
  obtain ⟨q,hq,bq,qq⟩:=g ht b (by simp)
  obtain ⟨r,hr,br,qr⟩:=g ht c (by simp)
  obtain ⟨s,hs,b4,q4⟩:=g ht d (by simp)
  exact ⟨p,q,r,s,⟨hp,hq,hr,hs⟩,⟨bp,bq,br,b4⟩,qp,qq,qr,q4⟩
end Go.Proofs
end
section
namespace Go.Proofs
open Go.Ax
def rtA (w a b c:Rat):Rat:=w*w+a*a - b*b - c*c
def rtB (w a b c:Rat):Rat:=2*(a*b+w*c)
def rtC (w a b c:Rat):Rat:=2*(a*b - w*c)
def nq (w a b c:Rat):Rat:=w*w+dot3 a b c a b c
def oN (x1 x2 x3 y1 y2 y3 z1 z2 z3:Rat):Prop:=(dot3 x1 x2 x3 x1 x2 x3=1∧dot3 y1 y2 y3 y1 y2 y3=1∧dot3 z1 z2 z3 z1 z2 z3=1)∧orth x1 x2 x3 y1 y2 y3 z1 z2 z3∧det3 x1 x2 x3 y1 y2 y3 z1 z2 z3=1
theorem sc_dot (a b c d e f i:Rat):dot3 (a*i) (b*i) (c*i) (d*i) (e*i) (f*i)=dot3 a b c d e f*(i*i):=by unfold dot3;grind
theorem sc_det (a b c d e f g h j i:Rat):det3 (a*i) (b*i) (c*i) (d*i) (e*i) (f*i) (g*i) (h*i) (j*i)=det3 a b c d e f g h j*(i*(i*i)):=by unfold det3;grind
theorem rx_sq (w a b c:Rat):dot3 (rtA w a b c) (rtB w a b c) (rtC w a c b) (rtA w a b c) (rtB w a b c) (rtC w a c b)=nq w a b c*nq w a b c:=by unfold rtA rtB rtC nq dot3;grind
theorem ry_sq (w a b c:Rat):dot3 (rtC w a b c) (rtA w b a c) (rtB w b c a) (rtC w a b c) (rtA w b a c) (rtB w b c a)=nq w a b c*nq w a b c:=by unfold rtA rtB rtC nq dot3;grind
theorem rz_sq (w a b c:Rat):dot3 (rtB w a c b) (rtC w b c a) (rtA w c a b) (rtB w a c b) (rtC w b c a) (rtA w c a b)=nq w a b c*nq w a b c:=by unfold rtA rtB rtC nq dot3;grind
theorem rxy (w a b c:Rat):dot3 (rtA w a b c) (rtB w a b c) (rtC w a c b) (rtC w a b c) (rtA w b a c) (rtB w b c a)=0:=by unfold rtA rtB rtC dot3;grind
theorem ryz (w a b c:Rat):dot3 (rtC w a b c) (rtA w b a c) (rtB w b c a) (rtB w a c b) (rtC w b c a) (rtA w c a b)=0:=by unfold rtA rtB rtC dot3;grind
theorem rzx (w a b c:Rat):dot3 (rtB w a c b) (rtC w b c a) (rtA w c a b) (rtA w a b c) (rtB w a b c) (rtC w a c b)=0:=by unfold rtA rtB rtC dot3;grind
theorem rcr1 (w a b c:Rat):rtB w a b c*rtB w b c a - rtC w a c b*rtA w b a c=nq w a b c*rtB w a c b:=by unfold rtA rtB rtC nq dot3;grind
theorem rcr2 (w a b c:Rat):rtC w a c b*rtC w a b c - rtA w a b c*rtB w b c a=nq w a b c*rtC w b c a:=by unfold rtA rtB rtC nq dot3;grind
theorem rcr3 (w a b c:Rat):rtA w a b c*rtA w b a c - rtB w a b c*rtC w a b c=nq w a b c*rtA w c a b:=by unfold rtA rtB rtC nq dot3;grind
theorem rdet (w a b c:Rat):det3 (rtA w a b c) (rtB w a b c) (rtC w a c b) (rtC w a b c) (rtA w b a c) (rtB w b c a) (rtB w a c b) (rtC w b c a) (rtA w c a b)=nq w a b c*(nq w a b c*nq w a b c):=by
  have h:=rz_sq w a b c
  unfold det3
  rw [rcr1,rcr2,rcr3,←h]
  unfold dot3;grind
theorem one_sq {n i:Rat} (h:n*i=1):n*n*(i*i)=1:=by
  have:n*n*(i*i)=n*i*(n*i):=by grind
  rw [this,h];grind
theorem one_cu {n i:Rat} (h:n*i=1):n*(n*n)*(i*(i*i))=1:=by
  have:n*(n*n)*(i*(i*i))=n*i*(n*i)*(n*i):=by grind
  rw [this,h];grind
theorem oN_rot {w a b c i:Rat} (h:nq w a b c*i=1):oN (rtA w a b c*i) (rtB w a b c*i) (rtC w a c b*i) (rtC w a b c*i) (rtA w b a c*i) (rtB w b c a*i) (rtB w a c b*i) (rtC w b c a*i) (rtA w c a b*i):=by
  refine ⟨⟨?_,?_,?_⟩,⟨?_,?_,?_⟩,?_⟩
  · rw [sc_dot,rx_sq];exact one_sq h
  · rw [sc_dot,ry_sq];exact one_sq h
  · rw [sc_dot,rz_sq];exact one_sq h
  · rw [sc_dot,rxy];exact Rat.zero_mul _
  · rw [sc_dot,ryz];exact Rat.zero_mul _
  · rw [sc_dot,rzx];exact Rat.zero_mul _
  · rw [sc_det,rdet];exact one_cu h
theorem comb_dot (x1 x2 x3 y1 y2 y3 z1 z2 z3 a1 a2 a3 b1 b2 b3:Rat):dot3 (x1*a1+y1*a2+z1*a3) (x2*a1+y2*a2+z2*a3) (x3*a1+y3*a2+z3*a3) (x1*b1+y1*b2+z1*b3) (x2*b1+y2*b2+z2*b3) (x3*b1+y3*b2+z3*b3) =
    a1*b1*dot3 x1 x2 x3 x1 x2 x3+a2*b2*dot3 y1 y2 y3 y1 y2 y3+a3*b3*dot3 z1 z2 z3 z1 z2 z3+(a1*b2+a2*b1)*dot3 x1 x2 x3 y1 y2 y3+(a2*b3+a3*b2)*dot3 y1 y2 y3 z1 z2 z3+(a3*b1+a1*b3)*dot3 z1 z2 z3 x1 x2 x3:=by unfold dot3;grind
theorem oN_dot {x1 x2 x3 y1 y2 y3 z1 z2 z3:Rat} (h:oN x1 x2 x3 y1 y2 y3 z1 z2 z3) (a1 a2 a3 b1 b2 b3:Rat):dot3 (x1*a1+y1*a2+z1*a3) (x2*a1+y2*a2+z2*a3) (x3*a1+y3*a2+z3*a3) (x1*b1+y1*b2+z1*b3) (x2*b1+y2*b2+z2*b3) (x3*b1+y3*b2+z3*b3)=dot3 a1 a2 a3 b1 b2 b3:=by
  obtain ⟨⟨h1,h2,h3⟩,⟨h4,h5,h6⟩,_⟩:=h
  rw [comb_dot,h1,h2,h3,h4,h5,h6]
  unfold dot3;grind
theorem oN_comp {x1 x2 x3 y1 y2 y3 z1 z2 z3 a1 a2 a3 b1 b2 b3 c1 c2 c3:Rat} (h:oN x1 x2 x3 y1 y2 y3 z1 z2 z3) (k:oN a1 a2 a3 b1 b2 b3 c1 c2 c3):oN (x1*a1+y1*a2+z1*a3) (x2*a1+y2*a2+z2*a3) (x3*a1+y3*a2+z3*a3) (x1*b1+y1*b2+z1*b3) (x2*b1+y2*b2+z2*b3) (x3*b1+y3*b2+z3*b3) (x1*c1+y1*c2+z1*c3) (x2*c1+y2*c2+z2*c3) (x3*c1+y3*c2+z3*c3):=by
  obtain ⟨⟨h1,h2,h3⟩,⟨h4,h5,h6⟩,h7⟩:=k
  refine ⟨⟨(oN_dot h _ _ _ _ _ _).trans h1,(oN_dot h _ _ _ _ _ _).trans h2,(oN_dot h _ _ _ _ _ _).trans h3⟩,⟨(oN_dot h _ _ _ _ _ _).trans h4,(oN_dot h _ _ _ _ _ _).trans h5,(oN_dot h _ _ _ _ _ _).trans h6⟩,?_⟩
  have:det3 (x1*a1+y1*a2+z1*a3) (x2*a1+y2*a2+z2*a3) (x3*a1+y3*a2+z3*a3) (x1*b1+y1*b2+z1*b3) (x2*b1+y2*b2+z2*b3) (x3*b1+y3*b2+z3*b3) (x1*c1+y1*c2+z1*c3) (x2*c1+y2*c2+z2*c3) (x3*c1+y3*c2+z3*c3)=det3 x1 x2 x3 y1 y2 y3 z1 z2 z3*det3 a1 a2 a3 b1 b2 b3 c1 c2 c3:=by unfold det3;grind
  rw [this,h.2.2,h7];grind
theorem oN_axE {x1 x2 x3 y1 y2 y3 z1 z2 z3:Rat} (h:oN x1 x2 x3 y1 y2 y3 z1 z2 z3):axE x1 x2 x3 y1 y2 y3 z1 z2 z3=0:=by
  obtain ⟨⟨h1,h2,h3⟩,h4,h5⟩:=h
  have z:∀{a b c:Rat},dot3 a b c a b c=1→¬(a=0∧b=0∧c=0):=fun h e=>by
    obtain ⟨rfl,rfl,rfl⟩:=e
    unfold dot3 at h;grind
  unfold axE
  rw [if_neg,if_pos ⟨h4,by rw [h5];decide⟩]
  rintro ⟨⟨i,hi⟩,h⟩
  rcases (by omega:i=0∨i=1∨i=2) with rfl|rfl|rfl
  · exact z h1 (of_decide_eq_true h)
  · exact z h2 (of_decide_eq_true h)
  · exact z h3 (of_decide_eq_true h)
theorem oN_at {x1 x2 x3 y1 y2 y3 z1 z2 z3:Rat} (h:oN x1 x2 x3 y1 y2 y3 z1 z2 z3) (a1 a2 a3:Rat):dot3 x1 x2 x3 (x1*a1+y1*a2+z1*a3) (x2*a1+y2*a2+z2*a3) (x3*a1+y3*a2+z3*a3)=a1∧dot3 y1 y2 y3 (x1*a1+y1*a2+z1*a3) (x2*a1+y2*a2+z2*a3) (x3*a1+y3*a2+z3*a3)=a2∧dot3 z1 z2 z3 (x1*a1+y1*a2+z1*a3) (x2*a1+y2*a2+z2*a3) (x3*a1+y3*a2+z3*a3)=a3:=by
  obtain ⟨⟨h1,h2,h3⟩,⟨h4,h5,h6⟩,_⟩:=h
  have e1:dot3 x1 x2 x3 (x1*a1+y1*a2+z1*a3) (x2*a1+y2*a2+z2*a3) (x3*a1+y3*a2+z3*a3)=a1*dot3 x1 x2 x3 x1 x2 x3+a2*dot3 x1 x2 x3 y1 y2 y3+a3*dot3 z1 z2 z3 x1 x2 x3:=by unfold dot3;grind
  have e2:dot3 y1 y2 y3 (x1*a1+y1*a2+z1*a3) (x2*a1+y2*a2+z2*a3) (x3*a1+y3*a2+z3*a3)=a1*dot3 x1 x2 x3 y1 y2 y3+a2*dot3 y1 y2 y3 y1 y2 y3+a3*dot3 y1 y2 y3 z1 z2 z3:=by unfold dot3;grind
  have e3:dot3 z1 z2 z3 (x1*a1+y1*a2+z1*a3) (x2*a1+y2*a2+z2*a3) (x3*a1+y3*a2+z3*a3)=a1*dot3 z1 z2 z3 x1 x2 x3+a2*dot3 y1 y2 y3 z1 z2 z3+a3*dot3 z1 z2 z3 z1 z2 z3:=by unfold dot3;grind
  rw [h1,h4,h6] at e1
  rw [h4,h2,h5] at e2
  rw [h6,h5,h3] at e3
  exact ⟨by rw [e1];grind,by rw [e2];grind,by rw [e3];grind⟩
def Fr (D k:Nat) (q:Rat):Prop:=∃z:Int,q*(D:Rat)=(z:Rat)∧z.natAbs < 2 ^ k
theorem Fr_le {D k l:Nat} {q:Rat} (h:Fr D k q) (hk:Nat.ble k l=true):Fr D l q:=by
  obtain ⟨z,e,hz⟩:=h
  exact ⟨z,e,Nat.lt_of_lt_of_le hz (Nat.pow_le_pow_right (by decide) (Nat.le_of_ble_eq_true hk))⟩
theorem Fr_add {D k:Nat} {p q:Rat} (h:Fr D k p) (g:Fr D k q):Fr D (k+1) (p+q):=by
  obtain ⟨z,e,hz⟩:=h
  obtain ⟨y,f,hy⟩:=g
  refine ⟨z+y,by rw [Rat.intCast_add,←e,←f];grind,?_⟩
  have:=Int.natAbs_add_le z y
  rw [Nat.pow_succ];omega
theorem Fr_neg {D k:Nat} {p:Rat} (h:Fr D k p):Fr D k (-p):=by
  obtain ⟨z,e,hz⟩:=h
  exact ⟨-z,by rw [Rat.intCast_neg,←e];grind,by rwa [Int.natAbs_neg]⟩
theorem Fr_sub {D k:Nat} {p q:Rat} (h:Fr D k p) (g:Fr D k q):Fr D (k+1) (p - q):=by
  rw [Rat.sub_eq_add_neg];exact Fr_add h (Fr_neg g)
theorem Fr_mul {D E k l:Nat} {p q:Rat} (h:Fr D k p) (g:Fr E l q):Fr (D*E) (k+l) (p*q):=by
  obtain ⟨z,e,hz⟩:=h
  obtain ⟨y,f,hy⟩:=g
  refine ⟨z*y,by rw [Rat.intCast_mul,←e,←f,Rat.natCast_mul];grind,?_⟩
  rw [Int.natAbs_mul,Nat.pow_add]
  exact Nat.mul_lt_mul'' hz hy
theorem Fr_more {D k l E:Nat} {p:Rat} (h:Fr D k p) (hE:E < 2 ^ l):Fr (D*E) (k+l) p:=by
  have:=Fr_mul h (⟨(E:Int),by show (1:Rat)*(E:Rat)=((E:Int):Rat);rw [Rat.one_mul];rfl,by rwa [Int.natAbs_natCast]⟩:Fr E l 1)
  rwa [Rat.mul_one] at this
theorem rat_dn (x:Rat):x*(x.den:Rat)=(x.num:Rat):=by
  have h:(x.num:Rat) / (x.den:Rat)=x:=by
    rw [show ((x.den:Nat):Rat)=((x.den:Int):Rat) from rfl,←Rat.divInt_eq_div,Rat.num_divInt_den]
  have h0:(x.den:Rat)≠0:=fun e=>x.den_nz (by have:((x.den:Nat):Rat)=((0:Nat):Rat):=e;exact Rat.natCast_inj.1 this)
  grind
theorem Fr_Q {D k:Nat} {q:Rat} (h:Fr D k q) (h0:0 < D) (hD:D < 2 ^ k):Q k q:=by
  obtain ⟨z,e,hz⟩:=h
  have hd:=rat_dn q
  have e1:q.num*D=z*q.den:=by
    have:((q.num*D:Int):Rat)=((z*q.den:Int):Rat):=by
      rw [Rat.intCast_mul,Rat.intCast_mul,←hd,←e]
      show q*(q.den:Rat)*(D:Rat)=q*(D:Rat)*(q.den:Rat)
      grind
    exact Rat.intCast_inj.1 this
  have e2:q.num.natAbs*D=z.natAbs*q.den:=by
    have:=congrArg Int.natAbs e1
    rwa [Int.natAbs_mul,Int.natAbs_mul,Int.natAbs_natCast,Int.natAbs_natCast] at this
  have hdv:q.den∣D:=(q.reduced.symm).dvd_of_dvd_mul_left ⟨z.natAbs,by rw [e2];exact Nat.mul_comm _ _⟩
  obtain ⟨m,rfl⟩:=hdv
  have hm:0 < m:=Nat.pos_of_mul_pos_left h0
  have e3:q.num.natAbs*m=z.natAbs:=by
    have:q.den*(q.num.natAbs*m)=q.den*z.natAbs:=by rw [Nat.mul_comm q.den z.natAbs,←e2];exact Nat.mul_left_comm _ _ _
    exact Nat.eq_of_mul_eq_mul_left q.den_pos this
  exact ⟨Nat.lt_of_le_of_lt (Nat.le_trans (Nat.le_mul_of_pos_right _ hm) (Nat.le_of_eq e3)) hz,Nat.lt_of_le_of_lt (Nat.le_mul_of_pos_right _ hm) hD⟩
theorem Q_Fr {k:Nat} {q:Rat} (h:Q k q):Fr q.den k q:=⟨q.num,rat_dn q,h.1⟩
theorem lt24 {x y:Nat} (h:x < 2 ^ 12) (g:y < 2 ^ 12):x*y < 2 ^ 24:=by
  have:=Nat.mul_lt_mul'' h g
  rwa [←Nat.pow_add] at this
theorem rot_Fr {w a b c:Rat} (qw:Q 12 w) (qa:Q 12 a) (qb:Q 12 b) (qc:Q 12 c) (h:nq w a b c≠0):∃N:Nat,0 < N∧N < 2 ^ 99∧∀{x y z v:Rat},(x=w∨x=a∨x=b∨x=c)→(y=w∨y=a∨y=b∨y=c)→(z=w∨z=a∨z=b∨z=c)→(v=w∨v=a∨v=b∨v=c)→
    Fr N 99 (rtA x y z v*(nq w a b c)⁻¹)∧Fr N 99 (rtB x y z v*(nq w a b c)⁻¹)∧Fr N 99 (rtC x y z v*(nq w a b c)⁻¹):=by
  obtain ⟨D,hD⟩:∃D,D=w.den*a.den*(b.den*c.den):=⟨_,rfl⟩
  have fw:Fr D 48 w:=by rw [hD];exact Fr_le (Fr_more (Fr_more (Q_Fr qw) qa.2) (l:=24) (lt24 qb.2 qc.2)) rfl
  have fa:Fr D 48 a:=by rw [hD,Nat.mul_comm w.den];exact Fr_le (Fr_more (Fr_more (Q_Fr qa) qw.2) (l:=24) (lt24 qb.2 qc.2)) rfl
  have fb:Fr D 48 b:=by rw [hD,Nat.mul_comm (w.den*a.den)];exact Fr_le (Fr_more (Fr_more (Q_Fr qb) qc.2) (l:=24) (lt24 qw.2 qa.2)) rfl
  have fc:Fr D 48 c:=by rw [hD,Nat.mul_comm (w.den*a.den),Nat.mul_comm b.den];exact Fr_le (Fr_more (Fr_more (Q_Fr qc) qb.2) (l:=24) (lt24 qw.2 qa.2)) rfl
  have hD0:0 < D:=by rw [hD];exact Nat.mul_pos (Nat.mul_pos w.den_pos a.den_pos) (Nat.mul_pos b.den_pos c.den_pos)
  clear hD
  have f:∀{x:Rat},(x=w∨x=a∨x=b∨x=c)→Fr D 48 x:=fun h=>by rcases h with rfl|rfl|rfl|rfl <;> assumption
  have m:∀{x y:Rat},(x=w∨x=a∨x=b∨x=c)→(y=w∨y=a∨y=b∨y=c)→Fr (D*D) 96 (x*y):=fun h g=>Fr_mul (f h) (f g)
  have fn:Fr (D*D) 99 (nq w a b c):=by
    unfold nq dot3
    exact Fr_le (Fr_add (Fr_le (m (.inl rfl) (.inl rfl)) (l:=98) rfl) (Fr_add (Fr_add (m (.inr (.inl rfl)) (.inr (.inl rfl))) (m (.inr (.inr (.inl rfl))) (.inr (.inr (.inl rfl))))) (Fr_le (m (.inr (.inr (.inr rfl))) (.inr (.inr (.inr rfl)))) (l:=97) rfl))) rfl
  obtain ⟨n,en,hn⟩:=fn
  have hDD:((D*D:Nat):Rat)≠0:=fun e=>by
    have:((D*D:Nat):Rat)=((0:Nat):Rat):=e
    have:=Rat.natCast_inj.1 this
    have:=Nat.mul_pos hD0 hD0
    omega
  have hn0:n≠0:=fun e=>by
    rw [e] at en
    exact (Rat.mul_eq_zero.1 en).elim h hDD
  have g:∀{x:Rat},Fr (D*D) 99 x→Fr n.natAbs 99 (x*(nq w a b c)⁻¹):=fun {x} hx=>by
    obtain ⟨z,ez,hz⟩:=hx
    have k:x*(nq w a b c)⁻¹*(n:Rat)=(z:Rat):=by rw [←en,←ez];generalize nq w a b c=N at *;grind
    rcases Int.natAbs_eq n with hn'|hn'
    · exact ⟨z,by rw [←k];exact congrArg _ (congrArg (fun i:Int=>(i:Rat)) hn'.symm),hz⟩
    · refine ⟨-z,?_,by rwa [Int.natAbs_neg]⟩
      have e5:((n.natAbs:Nat):Rat)= -(n:Rat):=by
        have:((n.natAbs:Int):Rat)=((-n:Int):Rat):=congrArg _ (by omega)
        rw [Rat.intCast_neg] at this;exact this
      rw [e5,Rat.intCast_neg,←k];grind
  refine ⟨n.natAbs,by omega,hn,fun h1 h2 h3 h4=>⟨g ?_,g ?_,g ?_⟩⟩
  · unfold rtA;exact Fr_sub (Fr_le (Fr_sub (Fr_add (m h1 h1) (m h2 h2)) (Fr_le (m h3 h3) (l:=97) rfl)) (l:=98) rfl) (Fr_le (m h4 h4) rfl)
  · unfold rtB;rw [show ∀q:Rat,2*q=q+q from fun q=>by grind];exact Fr_le (Fr_add (Fr_add (m h2 h3) (m h1 h4)) (Fr_add (m h2 h3) (m h1 h4))) rfl
  · unfold rtC;rw [show ∀q:Rat,2*q=q+q from fun q=>by grind];exact Fr_le (Fr_add (Fr_sub (m h2 h3) (m h1 h4)) (Fr_sub (m h2 h3) (m h1 h4))) rfl
end Go.Proofs
end
section
set_option maxHeartbeats 8000000
set_option maxRecDepth 100000
namespace Go.Proofs
open Go.Ax
theorem te1 (i w a b c:Rat):i*((w*w - dot3 a b c a b c)*I1+2*w*(b*I0 - c*I0)+2*dot3 a b c I1 I0 I0*a)=rtA w a b c*i:=by show i*((w*w - dot3 a b c a b c)*1+2*w*(b*0 - c*0)+2*dot3 a b c 1 0 0*a)=_;unfold rtA dot3;grind
theorem te2 (i w a b c:Rat):i*((w*w - dot3 a b c a b c)*I0+2*w*(c*I1 - a*I0)+2*dot3 a b c I1 I0 I0*b)=rtB w a b c*i:=by show i*((w*w - dot3 a b c a b c)*0+2*w*(c*1 - a*0)+2*dot3 a b c 1 0 0*b)=_;unfold rtB dot3;grind
theorem te3 (i w a b c:Rat):i*((w*w - dot3 a b c a b c)*I0+2*w*(a*I0 - b*I1)+2*dot3 a b c I1 I0 I0*c)=rtC w a c b*i:=by show i*((w*w - dot3 a b c a b c)*0+2*w*(a*0 - b*1)+2*dot3 a b c 1 0 0*c)=_;unfold rtC dot3;grind
theorem te4 (i w a b c:Rat):i*((w*w - dot3 a b c a b c)*I0+2*w*(b*I0 - c*I1)+2*dot3 a b c I0 I1 I0*a)=rtC w a b c*i:=by show i*((w*w - dot3 a b c a b c)*0+2*w*(b*0 - c*1)+2*dot3 a b c 0 1 0*a)=_;unfold rtC dot3;grind
theorem te5 (i w a b c:Rat):i*((w*w - dot3 a b c a b c)*I1+2*w*(c*I0 - a*I0)+2*dot3 a b c I0 I1 I0*b)=rtA w b a c*i:=by show i*((w*w - dot3 a b c a b c)*1+2*w*(c*0 - a*0)+2*dot3 a b c 0 1 0*b)=_;unfold rtA dot3;grind
theorem te6 (i w a b c:Rat):i*((w*w - dot3 a b c a b c)*I0+2*w*(a*I1 - b*I0)+2*dot3 a b c I0 I1 I0*c)=rtB w b c a*i:=by show i*((w*w - dot3 a b c a b c)*0+2*w*(a*1 - b*0)+2*dot3 a b c 0 1 0*c)=_;unfold rtB dot3;grind
theorem te7 (i w a b c:Rat):i*((w*w - dot3 a b c a b c)*I0+2*w*(b*I1 - c*I0)+2*dot3 a b c I0 I0 I1*a)=rtB w a c b*i:=by show i*((w*w - dot3 a b c a b c)*0+2*w*(b*1 - c*0)+2*dot3 a b c 0 0 1*a)=_;unfold rtB dot3;grind
theorem te8 (i w a b c:Rat):i*((w*w - dot3 a b c a b c)*I0+2*w*(c*I0 - a*I1)+2*dot3 a b c I0 I0 I1*b)=rtC w b c a*i:=by show i*((w*w - dot3 a b c a b c)*0+2*w*(c*0 - a*1)+2*dot3 a b c 0 0 1*b)=_;unfold rtC dot3;grind
theorem te9 (i w a b c:Rat):i*((w*w - dot3 a b c a b c)*I1+2*w*(a*I0 - b*I0)+2*dot3 a b c I0 I0 I1*c)=rtA w c a b*i:=by show i*((w*w - dot3 a b c a b c)*1+2*w*(a*0 - b*0)+2*dot3 a b c 0 0 1*c)=_;unfold rtA dot3;grind
theorem okO3:okV 0 0 0:=okV_of (Q_of Q_zero rfl) (Q_of Q_zero rfl) (Q_of Q_zero rfl)
theorem bVf {a b c:Rat} (h:okV a b c):bigV a b c=false:=by unfold bigV;rw [h.1,h.2.1,h.2.2];rfl
theorem gv_0 {o1 o2 o3 x1 x2 x3 y1 y2 y3 z1 z2 z3:Rat} (oo:okV o1 o2 o3) (ox:okV x1 x2 x3) (oy:okV y1 y2 y3) (oz:okV z1 z2 z3) (h:orth x1 x2 x3 y1 y2 y3 z1 z2 z3):gvF o1 o2 o3 x1 x2 x3 y1 y2 y3 z1 z2 z3=0:=by
  unfold gvF
  unfold orth at h
  rw [if_pos h,if_neg]
  unfold bigF
  rw [bVf oo,bVf ox,bVf oy,bVf oz]
  decide
theorem t_Turn {w a b c:Rat} (hw:bigQ w=false) (hu:okV a b c) (h0:¬(w=0∧a=0∧b=0∧c=0)) {x1 x2 x3 y1 y2 y3 z1 z2 z3:Rat} (e1:rtA w a b c*(nq w a b c)⁻¹=x1) (e2:rtB w a b c*(nq w a b c)⁻¹=x2) (e3:rtC w a c b*(nq w a b c)⁻¹=x3) (e4:rtC w a b c*(nq w a b c)⁻¹=y1) (e5:rtA w b a c*(nq w a b c)⁻¹=y2) (e6:rtB w b c a*(nq w a b c)⁻¹=y3) (e7:rtB w a c b*(nq w a b c)⁻¹=z1) (e8:rtC w b c a*(nq w a b c)⁻¹=z2) (e9:rtA w c a b*(nq w a b c)⁻¹=z3)
    (hx:okV x1 x2 x3) (hy:okV y1 y2 y3) (hz:okV z1 z2 z3) (ho:orth x1 x2 x3 y1 y2 y3 z1 z2 z3):Ax.Pure Tryz.prog G 62 [txQ (ratL w) (ratL a) (ratL b) (ratL c)] (.tup [tF (ratL 0) (ratL 0) (ratL 0) (ratL x1) (ratL x2) (ratL x3) (ratL y1) (ratL y2) (ratL y3) (ratL z1) (ratL z2) (ratL z3),N 0]):=by
  have s0:=s_Turn w a b c hw hu h0
  simp only [tu_eq,te1,te2,te3,te4,te5,te6,te7,te8,te9] at s0
  rw [show w*w+dot3 a b c a b c=nq w a b c from rfl,e1,e2,e3,e4,e5,e6,e7,e8,e9] at s0
  exact s0 (gv_0 okO3 hx hy hz ho)
theorem dzz (a b c:Rat):dot3 (I0 - 0) (I0 - 0) (I0 - 0) a b c=0:=by show (0 - 0)*a+(0 - 0)*b+(0 - 0)*c=0;grind
theorem z_pl (x y z:Rat):(0:Rat)+(x*0+y*0+z*0)=0:=by grind
theorem rdiv1 (a:Rat):a / 1=a:=by grind
theorem t_Inverse {x1 x2 x3 y1 y2 y3 z1 z2 z3:Rat} (h:oN x1 x2 x3 y1 y2 y3 z1 z2 z3) (hx:okV x1 x2 x3) (hy:okV y1 y2 y3) (hz:okV z1 z2 z3) (ho:orth x1 y1 z1 x2 y2 z2 x3 y3 z3):Ax.Pure Tryz.prog G 61 [tF (ratL 0) (ratL 0) (ratL 0) (ratL x1) (ratL x2) (ratL x3) (ratL y1) (ratL y2) (ratL y3) (ratL z1) (ratL z2) (ratL z3)] (.tup [tF (ratL 0) (ratL 0) (ratL 0) (ratL x1) (ratL y1) (ratL z1) (ratL x2) (ratL y2) (ratL z2) (ratL x3) (ratL y3) (ratL z3),N 0]):=by
  have s0:=s_Inverse 0 0 0 x1 x2 x3 y1 y2 y3 z1 z2 z3 ⟨okO3,hx,hy,hz,oN_axE h⟩
  simp only [dzz,dot_e1,dot_e2,dot_e3,h.1.1,h.1.2.1,h.1.2.2,rdiv1] at s0
  exact s0 (gv_0 okO3 ⟨hx.1,hy.1,hz.1⟩ ⟨hx.2.1,hy.2.1,hz.2.1⟩ ⟨hx.2.2,hy.2.2,hz.2.2⟩ ho)
theorem t_Compose {x1 x2 x3 y1 y2 y3 z1 z2 z3 a1 a2 a3 b1 b2 b3 c1 c2 c3:Rat} (h:oN x1 x2 x3 y1 y2 y3 z1 z2 z3) (hx:okV x1 x2 x3) (hy:okV y1 y2 y3) (hz:okV z1 z2 z3) (k:oN a1 a2 a3 b1 b2 b3 c1 c2 c3) (ha:okV a1 a2 a3) (hb:okV b1 b2 b3) (hc:okV c1 c2 c3)
    (oa:okV (x1*a1+y1*a2+z1*a3) (x2*a1+y2*a2+z2*a3) (x3*a1+y3*a2+z3*a3)) (ob:okV (x1*b1+y1*b2+z1*b3) (x2*b1+y2*b2+z2*b3) (x3*b1+y3*b2+z3*b3)) (oc:okV (x1*c1+y1*c2+z1*c3) (x2*c1+y2*c2+z2*c3) (x3*c1+y3*c2+z3*c3)) :
    Ax.Pure Tryz.prog G 60 [tF (ratL 0) (ratL 0) (ratL 0) (ratL x1) (ratL x2) (ratL x3) (ratL y1) (ratL y2) (ratL y3) (ratL z1) (ratL z2) (ratL z3),tF (ratL 0) (ratL 0) (ratL 0) (ratL a1) (ratL a2) (ratL a3) (ratL b1) (ratL b2) (ratL b3) (ratL c1) (ratL c2) (ratL c3)]
      (.tup [tF (ratL 0) (ratL 0) (ratL 0) (ratL (x1*a1+y1*a2+z1*a3)) (ratL (x2*a1+y2*a2+z2*a3)) (ratL (x3*a1+y3*a2+z3*a3)) (ratL (x1*b1+y1*b2+z1*b3)) (ratL (x2*b1+y2*b2+z2*b3)) (ratL (x3*b1+y3*b2+z3*b3)) (ratL (x1*c1+y1*c2+z1*c3)) (ratL (x2*c1+y2*c2+z2*c3)) (ratL (x3*c1+y3*c2+z3*c3)),N 0]):=by
  have s0:=s_Compose 0 0 0 x1 x2 x3 y1 y2 y3 z1 z2 z3 ⟨okO3,hx,hy,hz,oN_axE h⟩ 0 0 0 a1 a2 a3 b1 b2 b3 c1 c2 c3 ⟨okO3,ha,hb,hc,oN_axE k⟩
  simp only [z_pl] at s0
  exact s0 (gv_0 okO3 oa ob oc (oN_comp h k).2.1)
theorem t_Place {x1 x2 x3 y1 y2 y3 z1 z2 z3 p1 p2 p3:Rat} (h:oN x1 x2 x3 y1 y2 y3 z1 z2 z3) (hx:okV x1 x2 x3) (hy:okV y1 y2 y3) (hz:okV z1 z2 z3) (hp:okV p1 p2 p3) {q1 q2 q3:Rat} (e1:x1*p1+y1*p2+z1*p3=q1) (e2:x2*p1+y2*p2+z2*p3=q2) (e3:x3*p1+y3*p2+z3*p3=q3) (hq:okV q1 q2 q3) :
    Ax.Pure Tryz.prog G 75 [tF (ratL 0) (ratL 0) (ratL 0) (ratL x1) (ratL x2) (ratL x3) (ratL y1) (ratL y2) (ratL y3) (ratL z1) (ratL z2) (ratL z3),tV (ratL p1) (ratL p2) (ratL p3)] (.tup [tV (ratL q1) (ratL q2) (ratL q3),N 0]):=by
  have s0:=s_Place 0 0 0 x1 x2 x3 y1 y2 y3 z1 z2 z3 ⟨okO3,hx,hy,hz,oN_axE h⟩ p1 p2 p3 hp
  rw [e1,e2,e3,Rat.zero_add,Rat.zero_add,Rat.zero_add] at s0
  exact fineV s0 hq
abbrev rw4 (a b c d:List UInt8):AV:=.one (.row 1 4 (fun i=> [[Leaf.v (.string (bs a))],[Leaf.v (.string (bs b))],[Leaf.v (.string (bs c))],[Leaf.v (.string (bs d))]].getD i []))
abbrev tx6 (p r:V3):AV:=.agg [.v (.string (bs p.1)),.v (.string (bs p.2.1)),.v (.string (bs p.2.2)),.v (.string (bs r.1)),.v (.string (bs r.2.1)),.v (.string (bs r.2.2))]
theorem tn_few (q0 q1 q2 q3 s0 s1 s2 s3:List UInt8) (p r:V3) (t1 t2 t3 t4:Bool) (h4:¬(t1=true∧t2=true∧t3=true∧t4=true)) (c_1:Ax.Pure Tryz.prog G 70 [rw4 q0 q1 q2 q3,N 4,N 3] (Bo t1)) (c_2:Ax.Pure Tryz.prog G 70 [rw4 s0 s1 s2 s3,N 4,N 3] (Bo t2)) (c_3:Ax.Pure Tryz.prog G 55 [txV p,N 3] (Bo t3)) (c_4:Ax.Pure Tryz.prog G 55 [txV r,N 3] (Bo t4)) :
    Ax.Pure Tryz.prog G 9 [txQ q0 q1 q2 q3,txQ s0 s1 s2 s3,tx6 p r] (Bo true):=by
  have c_aw:=c_awake
  refine zen Tryz.func9 rfl Tryz.ntmps9 ?_
  intro w0 E0 hc
  repeat' (first|(with_reducible first|refine Wp_seq ?_|refine zwk ?_|refine Wp_block ?_|refine zgo ?_|refine zbn ?_|refine zge Tryz.results9 ?_|refine Sub.refl _|refine allP_nil|refine zoa1 (out':=?_) ?_|refine zca1 (y:=?_) ?_|refine zea1 (eo':=?_) ?_)|(with_reducible refine zrs [1] hc ?_ ?_;focus (with_unfolding_all rfl))|(with_reducible refine zrm [1] hc mixed ?_ ?_;focus (with_unfolding_all rfl))|(with_reducible refine allP_cons ?_ ?_;focus (first|decide|omega))|(with_reducible first|refine zg2 ?_ ?_|refine zbo ?_|refine zg3 ?_ (fun h=>?_) (fun h=>?_)|refine zg4 (fun h=>?_) (fun h=>?_)|fail)|(omega;done))
  refine Wp_frzP hc 0 (sz:=4) (ro:=false) (g:=fun _=> [.v (.string (bs q0)),.v (.string (bs q1)),.v (.string (bs q2)),.v (.string (bs q3))]) (Is.refl _) ⟨trivial,trivial,trivial,trivial,trivial⟩ rfl ?_
  refine Wp_frzP hc 1 (sz:=4) (ro:=false) (g:=fun _=> [.v (.string (bs s0)),.v (.string (bs s1)),.v (.string (bs s2)),.v (.string (bs s3))]) (Is.refl _) ⟨trivial,trivial,trivial,trivial,trivial⟩ rfl ?_
  refine Wp_weaker (st':=stOf [(3,.one (.pp [.v (.string (bs q0)),.v (.string (bs q1)),.v (.string (bs q2)),.v (.string (bs q3))])),(4,.one (.pp [.v (.string (bs s0)),.v (.string (bs s1)),.v (.string (bs s2)),.v (.string (bs s3))])),(5,.one (.ptr 2 6 0 0))] [(2,⟨6,1,fun _=> [.v (.string (bs p.1)),.v (.string (bs p.2.1)),.v (.string (bs p.2.2)),.v (.string (bs r.1)),.v (.string (bs r.2.1)),.v (.string (bs r.2.2))],false⟩)] 3) ?_ ?_
  · refine zW1 ?_ <;> repeat' (with_reducible first|exact trivial|refine zan ?_ ?_|refine zal (fun i hi=>?_))
  cases t1
  · repeat' (first|(with_reducible first|refine Wp_seq ?_|refine zr0 hc ?_|refine zm0 hc ?_|refine zwk ?_|refine Wp_block ?_|refine zgo ?_|refine zbn ?_|refine zge Tryz.results9 ?_|refine Sub.refl _|refine allP_nil|refine zoa1 (out':=?_) ?_|refine zca1 (y:=?_) ?_|refine zea1 (eo':=?_) ?_)|(with_reducible refine allP_cons ?_ ?_;focus (first|decide|omega))|(with_reducible first|refine zg2 ?_ ?_|refine zoc c_aw ?_ ?_|refine zoc c_1 ?_ ?_|refine zbo ?_|refine zg3 ?_ (fun h=>?_) (fun h=>?_)|refine zg4 (fun h=>?_) (fun h=>?_)|fail)|((first|omega|(refine absurd ?_ h;decide)|(refine nf1 ?_;with_reducible assumption)|(refine nf2 ?_;with_reducible assumption)|(exfalso;simp [beq_bs] at h;done)|fail);done))
  cases t2
  · repeat' (first|(with_reducible first|refine Wp_seq ?_|refine zr0 hc ?_|refine zm0 hc ?_|refine zwk ?_|refine Wp_block ?_|refine zgo ?_|refine zbn ?_|refine zge Tryz.results9 ?_|refine Sub.refl _|refine allP_nil|refine zoa1 (out':=?_) ?_|refine zca1 (y:=?_) ?_|refine zea1 (eo':=?_) ?_)|(with_reducible refine allP_cons ?_ ?_;focus (first|decide|omega))|(with_reducible first|refine zg2 ?_ ?_|refine zoc c_aw ?_ ?_|refine zoc c_1 ?_ ?_|refine zoc c_2 ?_ ?_|refine zbo ?_|refine zg3 ?_ (fun h=>?_) (fun h=>?_)|refine zg4 (fun h=>?_) (fun h=>?_)|fail)|((first|omega|(refine absurd ?_ h;decide)|(refine nf1 ?_;with_reducible assumption)|(refine nf2 ?_;with_reducible assumption)|(exfalso;simp [beq_bs] at h;done)|fail);done))
  cases t3
  · repeat' (first|(with_reducible first|refine Wp_seq ?_|refine zr0 hc ?_|refine zm0 hc ?_|refine zwk ?_|refine Wp_block ?_|refine zgo ?_|refine zbn ?_|refine zge Tryz.results9 ?_|refine Sub.refl _|refine allP_nil|refine zoa1 (out':=?_) ?_|refine zca1 (y:=?_) ?_|refine zea1 (eo':=?_) ?_)|(with_reducible refine allP_cons ?_ ?_;focus (first|decide|omega))|(with_reducible first|refine zg2 ?_ ?_|refine zoc c_aw ?_ ?_|refine zoc c_1 ?_ ?_|refine zoc c_2 ?_ ?_|refine zoc c_3 ?_ ?_|refine zbo ?_|refine zg3 ?_ (fun h=>?_) (fun h=>?_)|refine zg4 (fun h=>?_) (fun h=>?_)|fail)|((first|omega|(refine absurd ?_ h;decide)|(refine nf1 ?_;with_reducible assumption)|(refine nf2 ?_;with_reducible assumption)|(exfalso;simp [beq_bs] at h;done)|fail);done))
  cases t4
  · repeat' (first|(with_reducible first|refine Wp_seq ?_|refine zr0 hc ?_|refine zm0 hc ?_|refine zwk ?_|refine Wp_block ?_|refine zgo ?_|refine zbn ?_|refine zge Tryz.results9 ?_|refine Sub.refl _|refine allP_nil|refine zoa1 (out':=?_) ?_|refine zca1 (y:=?_) ?_|refine zea1 (eo':=?_) ?_)|(with_reducible refine allP_cons ?_ ?_;focus (first|decide|omega))|(with_reducible first|refine zg2 ?_ ?_|refine zoc c_aw ?_ ?_|refine zoc c_1 ?_ ?_|refine zoc c_2 ?_ ?_|refine zoc c_3 ?_ ?_|refine zoc c_4 ?_ ?_|refine zbo ?_|refine zg3 ?_ (fun h=>?_) (fun h=>?_)|refine zg4 (fun h=>?_) (fun h=>?_)|fail)|((first|omega|(refine absurd ?_ h;decide)|(refine nf1 ?_;with_reducible assumption)|(refine nf2 ?_;with_reducible assumption)|(exfalso;simp [beq_bs] at h;done)|fail);done))
  exact absurd ⟨rfl,rfl,rfl,rfl⟩ h4
theorem nfz {p:Prop} {b:Bool} (g:b=true) (h:b=false):p:=absurd (h.symm.trans g) Bool.false_ne_true
theorem tn_zero (q0 q1 q2 q3 s0 s1 s2 s3:Rat) (p r:V3) (h0:(q0=0∧q1=0∧q2=0∧q3=0)∨(s0=0∧s1=0∧s2=0∧s3=0)) (c_1:Ax.Pure Tryz.prog G 70 [rw4 (ratL q0) (ratL q1) (ratL q2) (ratL q3),N 4,N 3] (Bo true)) (c_2:Ax.Pure Tryz.prog G 70 [rw4 (ratL s0) (ratL s1) (ratL s2) (ratL s3),N 4,N 3] (Bo true)) (c_3:Ax.Pure Tryz.prog G 55 [txV p,N 3] (Bo true)) (c_4:Ax.Pure Tryz.prog G 55 [txV r,N 3] (Bo true)) :
    Ax.Pure Tryz.prog G 9 [txQ (ratL q0) (ratL q1) (ratL q2) (ratL q3),txQ (ratL s0) (ratL s1) (ratL s2) (ratL s3),tx6 p r] (Bo true):=by
  have c_aw:=c_awake
  have c_t:=s_Turn0
  rw [←zero_text] at c_t
  have hz:∀q:Rat,q=0→((bs (ratL q)).toList == (⟨#[48]⟩:ByteArray).toList)=true:=fun q h=>by rw [zero_text,rat_beq];exact decide_eq_true h
  rcases h0 with ⟨e0,e1,e2,e3⟩|⟨e0,e1,e2,e3⟩
  · have hE:eqVs [.string (bs (ratL q0)),.string (bs (ratL q1)),.string (bs (ratL q2)),.string (bs (ratL q3))] [.string ⟨#[48]⟩,.string ⟨#[48]⟩,.string ⟨#[48]⟩,.string ⟨#[48]⟩]=true:=by
      simp only [eqVs,eqV]
      rw [hz _ e0,hz _ e1,hz _ e2,hz _ e3];rfl
    refine zen Tryz.func9 rfl Tryz.ntmps9 ?_
    intro w0 E0 hc
    repeat' (first|(with_reducible first|refine Wp_seq ?_|refine zwk ?_|refine Wp_block ?_|refine zgo ?_|refine zbn ?_|refine zge Tryz.results9 ?_|refine Sub.refl _|refine allP_nil|refine zoa1 (out':=?_) ?_|refine zca1 (y:=?_) ?_|refine zea1 (eo':=?_) ?_)|(with_reducible refine zrs [1] hc ?_ ?_;focus (with_unfolding_all rfl))|(with_reducible refine zrm [1] hc mixed ?_ ?_;focus (with_unfolding_all rfl))|(with_reducible refine allP_cons ?_ ?_;focus (first|decide|omega))|(with_reducible first|refine zg2 ?_ ?_|refine zbo ?_|refine zg3 ?_ (fun h=>?_) (fun h=>?_)|refine zg4 (fun h=>?_) (fun h=>?_)|fail)|(omega;done))
    refine Wp_frzP hc 0 (sz:=4) (ro:=false) (g:=fun _=> [.v (.string (bs (ratL q0))),.v (.string (bs (ratL q1))),.v (.string (bs (ratL q2))),.v (.string (bs (ratL q3)))]) (Is.refl _) ⟨trivial,trivial,trivial,trivial,trivial⟩ rfl ?_
    refine Wp_frzP hc 1 (sz:=4) (ro:=false) (g:=fun _=> [.v (.string (bs (ratL s0))),.v (.string (bs (ratL s1))),.v (.string (bs (ratL s2))),.v (.string (bs (ratL s3)))]) (Is.refl _) ⟨trivial,trivial,trivial,trivial,trivial⟩ rfl ?_
    refine Wp_weaker (st':=stOf [(3,.one (.pp [.v (.string (bs (ratL q0))),.v (.string (bs (ratL q1))),.v (.string (bs (ratL q2))),.v (.string (bs (ratL q3)))])),(4,.one (.pp [.v (.string (bs (ratL s0))),.v (.string (bs (ratL s1))),.v (.string (bs (ratL s2))),.v (.string (bs (ratL s3)))])),(5,.one (.ptr 2 6 0 0))] [(2,⟨6,1,fun _=> [.v (.string (bs p.1)),.v (.string (bs p.2.1)),.v (.string (bs p.2.2)),.v (.string (bs r.1)),.v (.string (bs r.2.1)),.v (.string (bs r.2.2))],false⟩)] 3) ?_ ?_
    · refine zW1 ?_ <;> repeat' (with_reducible first|exact trivial|refine zan ?_ ?_|refine zal (fun i hi=>?_))
    repeat' (first|(with_reducible first|refine Wp_seq ?_|refine zr0 hc ?_|refine zm0 hc ?_|refine zwk ?_|refine Wp_block ?_|refine zgo ?_|refine zbn ?_|refine zge Tryz.results9 ?_|refine Sub.refl _|refine allP_nil|refine zoa1 (out':=?_) ?_|refine zca1 (y:=?_) ?_|refine zea1 (eo':=?_) ?_)|(with_reducible refine allP_cons ?_ ?_;focus (first|decide|omega))|(with_reducible first|refine zg2 ?_ ?_|refine zoc c_aw ?_ ?_|refine zoc c_1 ?_ ?_|refine zoc c_2 ?_ ?_|refine zoc c_3 ?_ ?_|refine zoc c_4 ?_ ?_|refine zoc c_t ?_ ?_|refine zbo ?_|refine zg3 ?_ (fun h=>?_) (fun h=>?_)|refine zg4 (fun h=>?_) (fun h=>?_)|fail)|((first|omega|exact nft2 h hE|(refine nfz hE ?_;assumption)|fail);done))
    all_goals exact Sub.refl _
  · have hE:eqVs [.string (bs (ratL s0)),.string (bs (ratL s1)),.string (bs (ratL s2)),.string (bs (ratL s3))] [.string ⟨#[48]⟩,.string ⟨#[48]⟩,.string ⟨#[48]⟩,.string ⟨#[48]⟩]=true:=by
      simp only [eqVs,eqV]
      rw [hz _ e0,hz _ e1,hz _ e2,hz _ e3];rfl
    refine zen Tryz.func9 rfl Tryz.ntmps9 ?_
    intro w0 E0 hc
    repeat' (first|(with_reducible first|refine Wp_seq ?_|refine zwk ?_|refine Wp_block ?_|refine zgo ?_|refine zbn ?_|refine zge Tryz.results9 ?_|refine Sub.refl _|refine allP_nil|refine zoa1 (out':=?_) ?_|refine zca1 (y:=?_) ?_|refine zea1 (eo':=?_) ?_)|(with_reducible refine zrs [1] hc ?_ ?_;focus (with_unfolding_all rfl))|(with_reducible refine zrm [1] hc mixed ?_ ?_;focus (with_unfolding_all rfl))|(with_reducible refine allP_cons ?_ ?_;focus (first|decide|omega))|(with_reducible first|refine zg2 ?_ ?_|refine zbo ?_|refine zg3 ?_ (fun h=>?_) (fun h=>?_)|refine zg4 (fun h=>?_) (fun h=>?_)|fail)|(omega;done))
    refine Wp_frzP hc 0 (sz:=4) (ro:=false) (g:=fun _=> [.v (.string (bs (ratL q0))),.v (.string (bs (ratL q1))),.v (.string (bs (ratL q2))),.v (.string (bs (ratL q3)))]) (Is.refl _) ⟨trivial,trivial,trivial,trivial,trivial⟩ rfl ?_
    refine Wp_frzP hc 1 (sz:=4) (ro:=false) (g:=fun _=> [.v (.string (bs (ratL s0))),.v (.string (bs (ratL s1))),.v (.string (bs (ratL s2))),.v (.string (bs (ratL s3)))]) (Is.refl _) ⟨trivial,trivial,trivial,trivial,trivial⟩ rfl ?_
    refine Wp_weaker (st':=stOf [(3,.one (.pp [.v (.string (bs (ratL q0))),.v (.string (bs (ratL q1))),.v (.string (bs (ratL q2))),.v (.string (bs (ratL q3)))])),(4,.one (.pp [.v (.string (bs (ratL s0))),.v (.string (bs (ratL s1))),.v (.string (bs (ratL s2))),.v (.string (bs (ratL s3)))])),(5,.one (.ptr 2 6 0 0))] [(2,⟨6,1,fun _=> [.v (.string (bs p.1)),.v (.string (bs p.2.1)),.v (.string (bs p.2.2)),.v (.string (bs r.1)),.v (.string (bs r.2.1)),.v (.string (bs r.2.2))],false⟩)] 3) ?_ ?_
    · refine zW1 ?_ <;> repeat' (with_reducible first|exact trivial|refine zan ?_ ?_|refine zal (fun i hi=>?_))
    repeat' (first|(with_reducible first|refine Wp_seq ?_|refine zr0 hc ?_|refine zm0 hc ?_|refine zwk ?_|refine Wp_block ?_|refine zgo ?_|refine zbn ?_|refine zge Tryz.results9 ?_|refine Sub.refl _|refine allP_nil|refine zoa1 (out':=?_) ?_|refine zca1 (y:=?_) ?_|refine zea1 (eo':=?_) ?_)|(with_reducible refine allP_cons ?_ ?_;focus (first|decide|omega))|(with_reducible first|refine zg2 ?_ ?_|refine zoc c_aw ?_ ?_|refine zoc c_1 ?_ ?_|refine zoc c_2 ?_ ?_|refine zoc c_3 ?_ ?_|refine zoc c_4 ?_ ?_|refine zoc c_t ?_ ?_|refine zbo ?_|refine zg3 ?_ (fun h=>?_) (fun h=>?_)|refine zg4 (fun h=>?_) (fun h=>?_)|fail)|((first|omega|exact nft2 h hE|(refine nfz hE ?_;assumption)|fail);done))
    all_goals exact Sub.refl _
theorem tn_run (q0 q1 q2 q3 s0 s1 s2 s3:Rat) (p r:V3) (hq:¬(q0=0∧q1=0∧q2=0∧q3=0)) (hs:¬(s0=0∧s1=0∧s2=0∧s3=0)) (c_1:Ax.Pure Tryz.prog G 70 [rw4 (ratL q0) (ratL q1) (ratL q2) (ratL q3),N 4,N 3] (Bo true)) (c_2:Ax.Pure Tryz.prog G 70 [rw4 (ratL s0) (ratL s1) (ratL s2) (ratL s3),N 4,N 3] (Bo true)) (c_3:Ax.Pure Tryz.prog G 55 [txV p,N 3] (Bo true)) (c_4:Ax.Pure Tryz.prog G 55 [txV r,N 3] (Bo true))
    (f g iv fg:Nat→List UInt8) (a b x y:V3) (m1 m2 m3 j0 j1 j2 j3 d:List UInt8)
    (c_tf:Ax.Pure Tryz.prog G 62 [txQ (ratL q0) (ratL q1) (ratL q2) (ratL q3)] (.tup [tFt f,N 0])) (c_tg:Ax.Pure Tryz.prog G 62 [txQ (ratL s0) (ratL s1) (ratL s2) (ratL s3)] (.tup [tFt g,N 0]))
    (c_kf:Ax.Pure Tryz.prog G 31 [tFt f] (N 0)) (c_kg:Ax.Pure Tryz.prog G 31 [tFt g] (N 0)) (ee:V3) (c_st:Ax.Pure Tryz.prog G 71 [tFt f] (txV ee)) (c_v:Ax.Pure Tryz.prog G 72 [N 1,N 1,N 1] (txV ee))
    (c_iv:Ax.Pure Tryz.prog G 61 [tFt f] (.tup [tFt iv,N 0])) (c_n1:Ax.Pure Tryz.prog G 73 [S (bs (ratL q1))] (S (bs m1))) (c_n2:Ax.Pure Tryz.prog G 73 [S (bs (ratL q2))] (S (bs m2))) (c_n3:Ax.Pure Tryz.prog G 73 [S (bs (ratL q3))] (S (bs m3)))
    (c_tc:Ax.Pure Tryz.prog G 62 [txQ (ratL q0) m1 m2 m3] (.tup [tFt iv,N 0]))
    (c_j0:Ax.Pure Tryz.prog G 74 [S ⟨#[45,51]⟩,S (bs (ratL q0))] (S (bs j0))) (c_j1:Ax.Pure Tryz.prog G 74 [S ⟨#[45,51]⟩,S (bs (ratL q1))] (S (bs j1))) (c_j2:Ax.Pure Tryz.prog G 74 [S ⟨#[45,51]⟩,S (bs (ratL q2))] (S (bs j2))) (c_j3:Ax.Pure Tryz.prog G 74 [S ⟨#[45,51]⟩,S (bs (ratL q3))] (S (bs j3)))
    (c_tm:Ax.Pure Tryz.prog G 62 [txQ j0 j1 j2 j3] (.tup [tFt f,N 0])) (c_fg:Ax.Pure Tryz.prog G 60 [tFt f,tFt g] (.tup [tFt fg,N 0]))
    (p_a:Ax.Pure Tryz.prog G 75 [tFt f,txV p] (.tup [txV a,N 0])) (p_b:Ax.Pure Tryz.prog G 75 [tFt f,txV r] (.tup [txV b,N 0])) (c_ka:Ax.Pure Tryz.prog G 39 [txV a] (N 0)) (c_kb:Ax.Pure Tryz.prog G 39 [txV b] (N 0)) (c_kfg:Ax.Pure Tryz.prog G 31 [tFt fg] (N 0))
    (p_x:Ax.Pure Tryz.prog G 75 [tFt g,txV p] (.tup [txV x,N 0])) (p_y:Ax.Pure Tryz.prog G 75 [tFt f,txV x] (.tup [txV y,N 0])) (p_z:Ax.Pure Tryz.prog G 75 [tFt fg,txV p] (.tup [txV y,N 0])) (p_u:Ax.Pure Tryz.prog G 75 [tFt iv,txV a] (.tup [txV p,N 0]))
    (c_d1:Ax.Pure Tryz.prog G 76 [txV a,txV b] (S (bs d))) (c_d2:Ax.Pure Tryz.prog G 76 [txV p,txV r] (S (bs d))) :
    Ax.Pure Tryz.prog G 9 [txQ (ratL q0) (ratL q1) (ratL q2) (ratL q3),txQ (ratL s0) (ratL s1) (ratL s2) (ratL s3),tx6 p r] (Bo true):=by
  have c_aw:=c_awake
  have hz:∀q:Rat,((bs (ratL q)).toList == (⟨#[48]⟩:ByteArray).toList)=decide (q=0):=fun q=>by rw [zero_text,rat_beq]
  have hQ:eqVs [.string (bs (ratL q0)),.string (bs (ratL q1)),.string (bs (ratL q2)),.string (bs (ratL q3))] [.string ⟨#[48]⟩,.string ⟨#[48]⟩,.string ⟨#[48]⟩,.string ⟨#[48]⟩]=false:=by
    simp only [eqVs,eqV]
    rw [hz,hz,hz,hz]
    cases k0:decide (q0=0)
    · rfl
    cases k1:decide (q1=0)
    · rfl
    cases k2:decide (q2=0)
    · rfl
    cases k3:decide (q3=0)
    · rfl
    exact absurd ⟨of_decide_eq_true k0,of_decide_eq_true k1,of_decide_eq_true k2,of_decide_eq_true k3⟩ hq
  have hS:eqVs [.string (bs (ratL s0)),.string (bs (ratL s1)),.string (bs (ratL s2)),.string (bs (ratL s3))] [.string ⟨#[48]⟩,.string ⟨#[48]⟩,.string ⟨#[48]⟩,.string ⟨#[48]⟩]=false:=by
    simp only [eqVs,eqV]
    rw [hz,hz,hz,hz]
    cases k0:decide (s0=0)
    · rfl
    cases k1:decide (s1=0)
    · rfl
    cases k2:decide (s2=0)
    · rfl
    cases k3:decide (s3=0)
    · rfl
    exact absurd ⟨of_decide_eq_true k0,of_decide_eq_true k1,of_decide_eq_true k2,of_decide_eq_true k3⟩ hs
  refine zen Tryz.func9 rfl Tryz.ntmps9 ?_
  intro w0 E0 hc
  repeat' (first|(with_reducible first|refine Wp_seq ?_|refine zwk ?_|refine Wp_block ?_|refine zgo ?_|refine zbn ?_|refine zge Tryz.results9 ?_|refine Sub.refl _|refine allP_nil|refine zoa1 (out':=?_) ?_|refine zca1 (y:=?_) ?_|refine zea1 (eo':=?_) ?_)|(with_reducible refine zrs [1] hc ?_ ?_;focus (with_unfolding_all rfl))|(with_reducible refine zrm [1] hc mixed ?_ ?_;focus (with_unfolding_all rfl))|(with_reducible refine allP_cons ?_ ?_;focus (first|decide|omega))|(with_reducible first|refine zg2 ?_ ?_|refine zbo ?_|refine zg3 ?_ (fun h=>?_) (fun h=>?_)|refine zg4 (fun h=>?_) (fun h=>?_)|fail)|(omega;done))
  refine Wp_frzP hc 0 (sz:=4) (ro:=false) (g:=fun _=> [.v (.string (bs (ratL q0))),.v (.string (bs (ratL q1))),.v (.string (bs (ratL q2))),.v (.string (bs (ratL q3)))]) (Is.refl _) ⟨trivial,trivial,trivial,trivial,trivial⟩ rfl ?_
  refine Wp_frzP hc 1 (sz:=4) (ro:=false) (g:=fun _=> [.v (.string (bs (ratL s0))),.v (.string (bs (ratL s1))),.v (.string (bs (ratL s2))),.v (.string (bs (ratL s3)))]) (Is.refl _) ⟨trivial,trivial,trivial,trivial,trivial⟩ rfl ?_
  refine Wp_weaker (st':=stOf [(3,.one (.pp [.v (.string (bs (ratL q0))),.v (.string (bs (ratL q1))),.v (.string (bs (ratL q2))),.v (.string (bs (ratL q3)))])),(4,.one (.pp [.v (.string (bs (ratL s0))),.v (.string (bs (ratL s1))),.v (.string (bs (ratL s2))),.v (.string (bs (ratL s3)))])),(5,.one (.ptr 2 6 0 0))] [(2,⟨6,1,fun _=> [.v (.string (bs p.1)),.v (.string (bs p.2.1)),.v (.string (bs p.2.2)),.v (.string (bs r.1)),.v (.string (bs r.2.1)),.v (.string (bs r.2.2))],false⟩)] 3) ?_ ?_
  · refine zW1 ?_ <;> repeat' (with_reducible first|exact trivial|refine zan ?_ ?_|refine zal (fun i hi=>?_))
  repeat' (first|(with_reducible first|refine Wp_seq ?_|refine zr0 hc ?_|refine zm0 hc ?_|refine zwk ?_|refine Wp_block ?_|refine zgo ?_|refine zbn ?_|refine zge Tryz.results9 ?_|refine Sub.refl _|refine allP_nil|refine zoa1 (out':=?_) ?_|refine zca1 (y:=?_) ?_|refine zea1 (eo':=?_) ?_)|(with_reducible refine allP_cons ?_ ?_;focus (first|decide|omega))|(with_reducible first|refine zg2 ?_ ?_|refine zoc c_aw ?_ ?_|refine zoc c_1 ?_ ?_|refine zoc c_2 ?_ ?_|refine zoc c_3 ?_ ?_|refine zoc c_4 ?_ ?_|refine zoc c_tf ?_ ?_|refine zoc c_tg ?_ ?_|refine zoc c_kf ?_ ?_|refine zoc c_kg ?_ ?_|refine zoc c_st ?_ ?_|refine zoc c_v ?_ ?_|refine zoc c_iv ?_ ?_|refine zoc c_n1 ?_ ?_|refine zoc c_n2 ?_ ?_|refine zoc c_n3 ?_ ?_|refine zoc c_tc ?_ ?_|refine zoc c_j0 ?_ ?_|refine zoc c_j1 ?_ ?_|refine zoc c_j2 ?_ ?_|refine zoc c_j3 ?_ ?_|refine zoc c_tm ?_ ?_|refine zoc c_fg ?_ ?_|refine zoc p_a ?_ ?_|refine zoc p_b ?_ ?_|refine zoc c_ka ?_ ?_|refine zoc c_kb ?_ ?_|refine zoc c_kfg ?_ ?_|refine zoc p_x ?_ ?_|refine zoc p_y ?_ ?_|refine zoc p_z ?_ ?_|refine zoc p_u ?_ ?_|refine zoc c_d1 ?_ ?_|refine zoc c_d2 ?_ ?_|refine zbo ?_|refine zg3 ?_ (fun h=>?_) (fun h=>?_)|refine zg4 (fun h=>?_) (fun h=>?_)|fail)|((first|omega|(refine absurd ?_ h;decide)|(refine nf1 ?_;with_reducible assumption)|(refine nf2 ?_;with_reducible assumption)|exact nft2 hQ h|exact nft2 hS h|(exfalso;simp [beq_bs] at h;done)|fail);done))
  all_goals exact sub_eq (congrArg Bo (by simp [beq_bs]))
theorem cjn (w a b c:Rat):nq w (-a) (-b) (-c)=nq w a b c:=by unfold nq dot3;grind
theorem cja (w a b c:Rat):rtA w (-a) (-b) (-c)=rtA w a b c:=by unfold rtA;grind
theorem cjb (w a b c:Rat):rtB w (-a) (-b) (-c)=rtC w a b c:=by unfold rtB rtC;grind
theorem cjc (w a b c:Rat):rtC w (-a) (-b) (-c)=rtB w a b c:=by unfold rtB rtC;grind
theorem mtn (w a b c:Rat):nq (-3*w) (-3*a) (-3*b) (-3*c)=9*nq w a b c:=by unfold nq dot3;grind
theorem mta (w a b c:Rat):rtA (-3*w) (-3*a) (-3*b) (-3*c)=9*rtA w a b c:=by unfold rtA;grind
theorem mtb (w a b c:Rat):rtB (-3*w) (-3*a) (-3*b) (-3*c)=9*rtB w a b c:=by unfold rtB;grind
theorem mtc (w a b c:Rat):rtC (-3*w) (-3*a) (-3*b) (-3*c)=9*rtC w a b c:=by unfold rtC;grind
theorem sc9 {r n:Rat} (h:n≠0):9*r*(9*n)⁻¹=r*n⁻¹:=by grind
theorem m3_text:(⟨#[45,51]⟩:ByteArray)=bs (ratL (-3)):=by
  have:ratL (-3)= [45,51]:=by
    rw [show (-3:Rat)=((-3:Int):Rat) from rfl,ratL_int]
    unfold intL
    rw [if_pos (by decide)]
    show 45 :: Lib.decDigits 3= [45,51]
    rw [dec_small (by decide)];rfl
  rw [this]
theorem tn_main (q0 q1 q2 q3 s0 s1 s2 s3 p1 p2 p3 r1 r2 r3:Rat) (b0:bigQ q0=false) (bq:okV q1 q2 q3) (b1':bigQ s0=false) (bs':okV s1 s2 s3) (op:okV p1 p2 p3) (or':okV r1 r2 r3) (hq:¬(q0=0∧q1=0∧q2=0∧q3=0)) (hs:¬(s0=0∧s1=0∧s2=0∧s3=0))
    (qq:Q 12 q0∧Q 12 q1∧Q 12 q2∧Q 12 q3) (qs:Q 12 s0∧Q 12 s1∧Q 12 s2∧Q 12 s3) (qp:Q 12 p1∧Q 12 p2∧Q 12 p3) (qr:Q 12 r1∧Q 12 r2∧Q 12 r3) (c_1:Ax.Pure Tryz.prog G 70 [rw4 (ratL q0) (ratL q1) (ratL q2) (ratL q3),N 4,N 3] (Bo true)) (c_2:Ax.Pure Tryz.prog G 70 [rw4 (ratL s0) (ratL s1) (ratL s2) (ratL s3),N 4,N 3] (Bo true)) (c_3:Ax.Pure Tryz.prog G 55 [txV (v3 p1 p2 p3),N 3] (Bo true)) (c_4:Ax.Pure Tryz.prog G 55 [txV (v3 r1 r2 r3),N 3] (Bo true)) :
    Ax.Pure Tryz.prog G 9 [txQ (ratL q0) (ratL q1) (ratL q2) (ratL q3),txQ (ratL s0) (ratL s1) (ratL s2) (ratL s3),tx6 (v3 p1 p2 p3) (v3 r1 r2 r3)] (Bo true):=by
  have hn:nq q0 q1 q2 q3≠0:=nm_ne hq
  have hm:nq s0 s1 s2 s3≠0:=nm_ne hs
  obtain ⟨N,hN0,hN,fN⟩:=rot_Fr qq.1 qq.2.1 qq.2.2.1 qq.2.2.2 hn
  obtain ⟨M,hM0,hM,fM⟩:=rot_Fr qs.1 qs.2.1 qs.2.2.1 qs.2.2.2 hm
  have of:=oN_rot (Rat.mul_inv_cancel _ hn)
  have og:=oN_rot (Rat.mul_inv_cancel _ hm)
  have cj:=oN_rot (w:=q0) (a:=-q1) (b:=-q2) (c:=-q3) (Rat.mul_inv_cancel _ (show nq q0 (-q1) (-q2) (-q3)≠0 by rw [cjn];exact hn))
  have Fx1:Fr N 99 (rtA q0 q1 q2 q3*(nq q0 q1 q2 q3)⁻¹):=(fN (.inl rfl) (.inr (.inl rfl)) (.inr (.inr (.inl rfl))) (.inr (.inr (.inr rfl)))).1
  have Fx2:Fr N 99 (rtB q0 q1 q2 q3*(nq q0 q1 q2 q3)⁻¹):=(fN (.inl rfl) (.inr (.inl rfl)) (.inr (.inr (.inl rfl))) (.inr (.inr (.inr rfl)))).2.1
  have Fx3:Fr N 99 (rtC q0 q1 q3 q2*(nq q0 q1 q2 q3)⁻¹):=(fN (.inl rfl) (.inr (.inl rfl)) (.inr (.inr (.inr rfl))) (.inr (.inr (.inl rfl)))).2.2
  have Fy1:Fr N 99 (rtC q0 q1 q2 q3*(nq q0 q1 q2 q3)⁻¹):=(fN (.inl rfl) (.inr (.inl rfl)) (.inr (.inr (.inl rfl))) (.inr (.inr (.inr rfl)))).2.2
  have Fy2:Fr N 99 (rtA q0 q2 q1 q3*(nq q0 q1 q2 q3)⁻¹):=(fN (.inl rfl) (.inr (.inr (.inl rfl))) (.inr (.inl rfl)) (.inr (.inr (.inr rfl)))).1
  have Fy3:Fr N 99 (rtB q0 q2 q3 q1*(nq q0 q1 q2 q3)⁻¹):=(fN (.inl rfl) (.inr (.inr (.inl rfl))) (.inr (.inr (.inr rfl))) (.inr (.inl rfl))).2.1
  have Fz1:Fr N 99 (rtB q0 q1 q3 q2*(nq q0 q1 q2 q3)⁻¹):=(fN (.inl rfl) (.inr (.inl rfl)) (.inr (.inr (.inr rfl))) (.inr (.inr (.inl rfl)))).2.1
  have Fz2:Fr N 99 (rtC q0 q2 q3 q1*(nq q0 q1 q2 q3)⁻¹):=(fN (.inl rfl) (.inr (.inr (.inl rfl))) (.inr (.inr (.inr rfl))) (.inr (.inl rfl))).2.2
  have Fz3:Fr N 99 (rtA q0 q3 q1 q2*(nq q0 q1 q2 q3)⁻¹):=(fN (.inl rfl) (.inr (.inr (.inr rfl))) (.inr (.inl rfl)) (.inr (.inr (.inl rfl)))).1
  have Fa1:Fr M 99 (rtA s0 s1 s2 s3*(nq s0 s1 s2 s3)⁻¹):=(fM (.inl rfl) (.inr (.inl rfl)) (.inr (.inr (.inl rfl))) (.inr (.inr (.inr rfl)))).1
  have Fa2:Fr M 99 (rtB s0 s1 s2 s3*(nq s0 s1 s2 s3)⁻¹):=(fM (.inl rfl) (.inr (.inl rfl)) (.inr (.inr (.inl rfl))) (.inr (.inr (.inr rfl)))).2.1
  have Fa3:Fr M 99 (rtC s0 s1 s3 s2*(nq s0 s1 s2 s3)⁻¹):=(fM (.inl rfl) (.inr (.inl rfl)) (.inr (.inr (.inr rfl))) (.inr (.inr (.inl rfl)))).2.2
  have Fb1:Fr M 99 (rtC s0 s1 s2 s3*(nq s0 s1 s2 s3)⁻¹):=(fM (.inl rfl) (.inr (.inl rfl)) (.inr (.inr (.inl rfl))) (.inr (.inr (.inr rfl)))).2.2
  have Fb2:Fr M 99 (rtA s0 s2 s1 s3*(nq s0 s1 s2 s3)⁻¹):=(fM (.inl rfl) (.inr (.inr (.inl rfl))) (.inr (.inl rfl)) (.inr (.inr (.inr rfl)))).1
  have Fb3:Fr M 99 (rtB s0 s2 s3 s1*(nq s0 s1 s2 s3)⁻¹):=(fM (.inl rfl) (.inr (.inr (.inl rfl))) (.inr (.inr (.inr rfl))) (.inr (.inl rfl))).2.1
  have Fc1:Fr M 99 (rtB s0 s1 s3 s2*(nq s0 s1 s2 s3)⁻¹):=(fM (.inl rfl) (.inr (.inl rfl)) (.inr (.inr (.inr rfl))) (.inr (.inr (.inl rfl)))).2.1
  have Fc2:Fr M 99 (rtC s0 s2 s3 s1*(nq s0 s1 s2 s3)⁻¹):=(fM (.inl rfl) (.inr (.inr (.inl rfl))) (.inr (.inr (.inr rfl))) (.inr (.inl rfl))).2.2
  have Fc3:Fr M 99 (rtA s0 s3 s1 s2*(nq s0 s1 s2 s3)⁻¹):=(fM (.inl rfl) (.inr (.inr (.inr rfl))) (.inr (.inl rfl)) (.inr (.inr (.inl rfl)))).1
  rw [cjn] at cj
  simp only [cja,cjb,cjc] at cj
  obtain ⟨x1,e1⟩:∃v,rtA q0 q1 q2 q3*(nq q0 q1 q2 q3)⁻¹=v:=⟨_,rfl⟩
  obtain ⟨x2,e2⟩:∃v,rtB q0 q1 q2 q3*(nq q0 q1 q2 q3)⁻¹=v:=⟨_,rfl⟩
  obtain ⟨x3,e3⟩:∃v,rtC q0 q1 q3 q2*(nq q0 q1 q2 q3)⁻¹=v:=⟨_,rfl⟩
  obtain ⟨y1,e4⟩:∃v,rtC q0 q1 q2 q3*(nq q0 q1 q2 q3)⁻¹=v:=⟨_,rfl⟩
  obtain ⟨y2,e5⟩:∃v,rtA q0 q2 q1 q3*(nq q0 q1 q2 q3)⁻¹=v:=⟨_,rfl⟩
  obtain ⟨y3,e6⟩:∃v,rtB q0 q2 q3 q1*(nq q0 q1 q2 q3)⁻¹=v:=⟨_,rfl⟩
  obtain ⟨z1,e7⟩:∃v,rtB q0 q1 q3 q2*(nq q0 q1 q2 q3)⁻¹=v:=⟨_,rfl⟩
  obtain ⟨z2,e8⟩:∃v,rtC q0 q2 q3 q1*(nq q0 q1 q2 q3)⁻¹=v:=⟨_,rfl⟩
  obtain ⟨z3,e9⟩:∃v,rtA q0 q3 q1 q2*(nq q0 q1 q2 q3)⁻¹=v:=⟨_,rfl⟩
  obtain ⟨a1,g1⟩:∃v,rtA s0 s1 s2 s3*(nq s0 s1 s2 s3)⁻¹=v:=⟨_,rfl⟩
  obtain ⟨a2,g2⟩:∃v,rtB s0 s1 s2 s3*(nq s0 s1 s2 s3)⁻¹=v:=⟨_,rfl⟩
  obtain ⟨a3,g3⟩:∃v,rtC s0 s1 s3 s2*(nq s0 s1 s2 s3)⁻¹=v:=⟨_,rfl⟩
  obtain ⟨b1,g4⟩:∃v,rtC s0 s1 s2 s3*(nq s0 s1 s2 s3)⁻¹=v:=⟨_,rfl⟩
  obtain ⟨b2,g5⟩:∃v,rtA s0 s2 s1 s3*(nq s0 s1 s2 s3)⁻¹=v:=⟨_,rfl⟩
  obtain ⟨b3,g6⟩:∃v,rtB s0 s2 s3 s1*(nq s0 s1 s2 s3)⁻¹=v:=⟨_,rfl⟩
  obtain ⟨c1,g7⟩:∃v,rtB s0 s1 s3 s2*(nq s0 s1 s2 s3)⁻¹=v:=⟨_,rfl⟩
  obtain ⟨c2,g8⟩:∃v,rtC s0 s2 s3 s1*(nq s0 s1 s2 s3)⁻¹=v:=⟨_,rfl⟩
  obtain ⟨c3,g9⟩:∃v,rtA s0 s3 s1 s2*(nq s0 s1 s2 s3)⁻¹=v:=⟨_,rfl⟩
  rw [e1,e2,e3,e4,e5,e6,e7,e8,e9] at of cj
  rw [g1,g2,g3,g4,g5,g6,g7,g8,g9] at og
  rw [e1] at Fx1
  rw [g1] at Fa1
  rw [e2] at Fx2
  rw [g2] at Fa2
  rw [e3] at Fx3
  rw [g3] at Fa3
  rw [e4] at Fy1
  rw [g4] at Fb1
  rw [e5] at Fy2
  rw [g5] at Fb2
  rw [e6] at Fy3
  rw [g6] at Fb3
  rw [e7] at Fz1
  rw [g7] at Fc1
  rw [e8] at Fz2
  rw [g8] at Fc2
  rw [e9] at Fz3
  rw [g9] at Fc3
  have sm:∀{D:Nat} {x:Rat},0 < D→D < 2 ^ 99→Fr D 99 x→bigQ x=false:=fun h1 h2 h=>Q_small (Q_of (Fr_Q h h1 h2) rfl)
  have kx:okV x1 x2 x3:=⟨sm hN0 hN Fx1,sm hN0 hN Fx2,sm hN0 hN Fx3⟩
  have ky:okV y1 y2 y3:=⟨sm hN0 hN Fy1,sm hN0 hN Fy2,sm hN0 hN Fy3⟩
  have kz:okV z1 z2 z3:=⟨sm hN0 hN Fz1,sm hN0 hN Fz2,sm hN0 hN Fz3⟩
  have ka:okV a1 a2 a3:=⟨sm hM0 hM Fa1,sm hM0 hM Fa2,sm hM0 hM Fa3⟩
  have kb:okV b1 b2 b3:=⟨sm hM0 hM Fb1,sm hM0 hM Fb2,sm hM0 hM Fb3⟩
  have kc:okV c1 c2 c3:=⟨sm hM0 hM Fc1,sm hM0 hM Fc2,sm hM0 hM Fc3⟩
  have kr1:okV x1 y1 z1:=⟨kx.1,ky.1,kz.1⟩
  have kr2:okV x2 y2 z2:=⟨kx.2.1,ky.2.1,kz.2.1⟩
  have kr3:okV x3 y3 z3:=⟨kx.2.2,ky.2.2,kz.2.2⟩
  have c_tf:=t_Turn b0 bq hq e1 e2 e3 e4 e5 e6 e7 e8 e9 kx ky kz of.2.1
  have c_tg:=t_Turn b1' bs' hs g1 g2 g3 g4 g5 g6 g7 g8 g9 ka kb kc og.2.1
  have bn:okV (-q1) (-q2) (-q3):=⟨by rw [bigQ_neg];exact bq.1,by rw [bigQ_neg];exact bq.2.1,by rw [bigQ_neg];exact bq.2.2⟩
  have c_tc:=t_Turn (w:=q0) (a:=-q1) (b:=-q2) (c:=-q3) b0 bn (fun h=>hq ⟨h.1,by grind,by grind,by grind⟩) (by rw [cjn,cja];exact e1) (by rw [cjn,cjb];exact e4) (by rw [cjn,cjc];exact e7) (by rw [cjn,cjc];exact e2) (by rw [cjn,cja];exact e5) (by rw [cjn,cjb];exact e8) (by rw [cjn,cjb];exact e3) (by rw [cjn,cjc];exact e6) (by rw [cjn,cja];exact e9) kr1 kr2 kr3 cj.2.1
  have qm3:Q 2 (-3:Rat):=⟨by decide,by decide⟩
  have bm3:∀{q:Rat},Q 12 q→bigQ (-3*q)=false:=fun h=>Q_small (Q_of (Q_mul qm3 h) rfl)
  have c_tm:=t_Turn (w:=-3*q0) (a:=-3*q1) (b:=-3*q2) (c:=-3*q3) (bm3 qq.1) ⟨bm3 qq.2.1,bm3 qq.2.2.1,bm3 qq.2.2.2⟩ (fun h=>hq ⟨by grind,by grind,by grind,by grind⟩) (by rw [mtn,mta,sc9 hn];exact e1) (by rw [mtn,mtb,sc9 hn];exact e2) (by rw [mtn,mtc,sc9 hn];exact e3) (by rw [mtn,mtc,sc9 hn];exact e4) (by rw [mtn,mta,sc9 hn];exact e5) (by rw [mtn,mtb,sc9 hn];exact e6) (by rw [mtn,mtb,sc9 hn];exact e7) (by rw [mtn,mtc,sc9 hn];exact e8) (by rw [mtn,mta,sc9 hn];exact e9) kx ky kz of.2.1
  have c_j0:=r_MulQ (-3) q0 (k:=12) (Q_of qm3 rfl) qq.1 (by decide)
  rw [←m3_text] at c_j0
  have c_j1:=r_MulQ (-3) q1 (k:=12) (Q_of qm3 rfl) qq.2.1 (by decide)
  rw [←m3_text] at c_j1
  have c_j2:=r_MulQ (-3) q2 (k:=12) (Q_of qm3 rfl) qq.2.2.1 (by decide)
  rw [←m3_text] at c_j2
  have c_j3:=r_MulQ (-3) q3 (k:=12) (Q_of qm3 rfl) qq.2.2.2 (by decide)
  rw [←m3_text] at c_j3
  have c_n1:=r_Neg q1 (k:=12) qq.2.1 (by decide)
  have c_n2:=r_Neg q2 (k:=12) qq.2.2.1 (by decide)
  have c_n3:=r_Neg q3 (k:=12) qq.2.2.2 (by decide)
  have c_iv:=t_Inverse of kx ky kz cj.2.1
  have c_kf:=r_CheckFr_ok 0 0 0 x1 x2 x3 y1 y2 y3 z1 z2 z3 okO3 kx ky kz
  rw [oN_axE of] at c_kf
  have c_kg:=r_CheckFr_ok 0 0 0 a1 a2 a3 b1 b2 b3 c1 c2 c3 okO3 ka kb kc
  rw [oN_axE og] at c_kg
  have c_st:=r_Stretch (k:=200) (by decide) 0 0 0 x1 x2 x3 y1 y2 y3 z1 z2 z3 ⟨(Q_of (Fr_Q Fx1 hN0 hN) rfl),(Q_of (Fr_Q Fx2 hN0 hN) rfl),(Q_of (Fr_Q Fx3 hN0 hN) rfl)⟩ ⟨(Q_of (Fr_Q Fy1 hN0 hN) rfl),(Q_of (Fr_Q Fy2 hN0 hN) rfl),(Q_of (Fr_Q Fy3 hN0 hN) rfl)⟩ ⟨(Q_of (Fr_Q Fz1 hN0 hN) rfl),(Q_of (Fr_Q Fz2 hN0 hN) rfl),(Q_of (Fr_Q Fz3 hN0 hN) rfl)⟩
  rw [of.1.1,of.1.2.1,of.1.2.2] at c_st
  have c_v:=l_vec 1 1 1 ⟨by decide,by decide⟩ ⟨by decide,by decide⟩ ⟨by decide,by decide⟩
  have hNM0:0 < N*M:=Nat.mul_pos hN0 hM0
  have hNM:N*M < 2 ^ 200:=by have:=Nat.mul_lt_mul'' hN hM;rw [←Nat.pow_add] at this;exact Nat.lt_trans this (by decide)
  have pf:∀{x y z a b c:Rat},Fr N 99 x→Fr N 99 y→Fr N 99 z→Fr M 99 a→Fr M 99 b→Fr M 99 c→bigQ (x*a+y*b+z*c)=false:=fun h1 h2 h3 h4 h5 h6=>Q_small (Q_of (Fr_Q (Fr_add (Fr_add (Fr_mul h1 h4) (Fr_mul h2 h5)) (Fr_le (Fr_mul h3 h6) (l:=199) rfl)) hNM0 hNM) rfl)
  have kA:okV (x1*a1+y1*a2+z1*a3) (x2*a1+y2*a2+z2*a3) (x3*a1+y3*a2+z3*a3):=⟨pf Fx1 Fy1 Fz1 Fa1 Fa2 Fa3,pf Fx2 Fy2 Fz2 Fa1 Fa2 Fa3,pf Fx3 Fy3 Fz3 Fa1 Fa2 Fa3⟩
  have kB:okV (x1*b1+y1*b2+z1*b3) (x2*b1+y2*b2+z2*b3) (x3*b1+y3*b2+z3*b3):=⟨pf Fx1 Fy1 Fz1 Fb1 Fb2 Fb3,pf Fx2 Fy2 Fz2 Fb1 Fb2 Fb3,pf Fx3 Fy3 Fz3 Fb1 Fb2 Fb3⟩
  have kC:okV (x1*c1+y1*c2+z1*c3) (x2*c1+y2*c2+z2*c3) (x3*c1+y3*c2+z3*c3):=⟨pf Fx1 Fy1 Fz1 Fc1 Fc2 Fc3,pf Fx2 Fy2 Fz2 Fc1 Fc2 Fc3,pf Fx3 Fy3 Fz3 Fc1 Fc2 Fc3⟩
  have c_fg:=t_Compose of kx ky kz og ka kb kc kA kB kC
  have ofg:=oN_comp of og
  have c_kfg:=r_CheckFr_ok 0 0 0 _ _ _ _ _ _ _ _ _ okO3 kA kB kC
  rw [oN_axE ofg] at c_kfg
  have qN:∀{x:Rat},Fr N 99 x→Q 99 x:=fun h=>Fr_Q h hN0 hN
  have qP:∀{x y z a b c:Rat},Fr N 99 x→Fr N 99 y→Fr N 99 z→Q 12 a→Q 12 b→Q 12 c→Q 400 (x*a+y*b+z*c):=fun h1 h2 h3 h4 h5 h6=>Q_of (Q_add (Q_add (Q_mul (qN h1) h4) (Q_mul (qN h2) h5)) (Q_mul (qN h3) h6)) rfl
  have qa1:=qP Fx1 Fy1 Fz1 qp.1 qp.2.1 qp.2.2
  have qa2:=qP Fx2 Fy2 Fz2 qp.1 qp.2.1 qp.2.2
  have qa3:=qP Fx3 Fy3 Fz3 qp.1 qp.2.1 qp.2.2
  have va:=okV_of (Q_of qa1 rfl) (Q_of qa2 rfl) (Q_of qa3 rfl)
  have p_a:=t_Place of kx ky kz op rfl rfl rfl va
  have qb1:=qP Fx1 Fy1 Fz1 qr.1 qr.2.1 qr.2.2
  have qb2:=qP Fx2 Fy2 Fz2 qr.1 qr.2.1 qr.2.2
  have qb3:=qP Fx3 Fy3 Fz3 qr.1 qr.2.1 qr.2.2
  have vb:=okV_of (Q_of qb1 rfl) (Q_of qb2 rfl) (Q_of qb3 rfl)
  have p_b:=t_Place of kx ky kz or' rfl rfl rfl vb
  obtain ⟨P,hP⟩:∃P,P=p1.den*(p2.den*p3.den):=⟨_,rfl⟩
  have hP0:0 < P:=by rw [hP];exact Nat.mul_pos p1.den_pos (Nat.mul_pos p2.den_pos p3.den_pos)
  have hPl:P < 2 ^ 36:=by rw [hP];have:=Nat.mul_lt_mul'' qp.1.2 (lt24 qp.2.1.2 qp.2.2.2);rw [←Nat.pow_add] at this;exact this
  have fp1:Fr P 36 p1:=by rw [hP];exact Fr_more (l:=24) (Q_Fr qp.1) (lt24 qp.2.1.2 qp.2.2.2)
  have fp2:Fr P 36 p2:=by rw [hP,Nat.mul_left_comm];exact Fr_more (l:=24) (Q_Fr qp.2.1) (lt24 qp.1.2 qp.2.2.2)
  have fp3:Fr P 36 p3:=by rw [hP,←Nat.mul_assoc,Nat.mul_comm];exact Fr_more (l:=24) (Q_Fr qp.2.2) (lt24 qp.1.2 qp.2.1.2)
  clear hP
  have fX1:=Fr_add (Fr_add (Fr_mul Fa1 fp1) (Fr_mul Fb1 fp2)) (Fr_le (Fr_mul Fc1 fp3) (l:=136) rfl)
  have fX2:=Fr_add (Fr_add (Fr_mul Fa2 fp1) (Fr_mul Fb2 fp2)) (Fr_le (Fr_mul Fc2 fp3) (l:=136) rfl)
  have fX3:=Fr_add (Fr_add (Fr_mul Fa3 fp1) (Fr_mul Fb3 fp2)) (Fr_le (Fr_mul Fc3 fp3) (l:=136) rfl)
  have hMP0:0 < M*P:=Nat.mul_pos hM0 hP0
  have hMP:M*P < 2 ^ 137:=by have:=Nat.mul_lt_mul'' hM hPl;rw [←Nat.pow_add] at this;exact Nat.lt_trans this (by decide)
  have vX:=okV_of (Q_of (Fr_Q fX1 hMP0 hMP) rfl) (Q_of (Fr_Q fX2 hMP0 hMP) rfl) (Q_of (Fr_Q fX3 hMP0 hMP) rfl)
  have p_x:=t_Place og ka kb kc op rfl rfl rfl vX
  have hT0:0 < N*(M*P):=Nat.mul_pos hN0 hMP0
  have hT:N*(M*P) < 2 ^ 238:=by have:=Nat.mul_lt_mul'' hN hMP;rw [←Nat.pow_add] at this;exact Nat.lt_trans this (by decide)
  have yf:∀{x y z:Rat},Fr N 99 x→Fr N 99 y→Fr N 99 z→bigQ (x*(a1*p1+b1*p2+c1*p3)+y*(a2*p1+b2*p2+c2*p3)+z*(a3*p1+b3*p2+c3*p3))=false:=fun h1 h2 h3=>Q_small (Q_of (Fr_Q (Fr_add (Fr_add (Fr_mul h1 fX1) (Fr_mul h2 fX2)) (Fr_le (Fr_mul h3 fX3) (l:=237) rfl)) hT0 hT) rfl)
  have vY:okV (x1*(a1*p1+b1*p2+c1*p3)+y1*(a2*p1+b2*p2+c2*p3)+z1*(a3*p1+b3*p2+c3*p3)) (x2*(a1*p1+b1*p2+c1*p3)+y2*(a2*p1+b2*p2+c2*p3)+z2*(a3*p1+b3*p2+c3*p3)) (x3*(a1*p1+b1*p2+c1*p3)+y3*(a2*p1+b2*p2+c2*p3)+z3*(a3*p1+b3*p2+c3*p3)):=⟨yf Fx1 Fy1 Fz1,yf Fx2 Fy2 Fz2,yf Fx3 Fy3 Fz3⟩
  have p_y:=t_Place of kx ky kz vX rfl rfl rfl vY
  have p_z:=t_Place ofg kA kB kC op (by grind) (by grind) (by grind) vY
  obtain ⟨u1,u2,u3⟩:=oN_at of p1 p2 p3
  have p_u:=t_Place cj kr1 kr2 kr3 va u1 u2 u3 op
  have c_d1:=r_Dot (k:=400) (by decide) _ _ _ _ _ _ ⟨qa1,qa2,qa3⟩ ⟨qb1,qb2,qb3⟩
  rw [oN_dot of] at c_d1
  have c_d2:=r_Dot (k:=12) (by decide) p1 p2 p3 r1 r2 r3 qp qr
  exact tn_run q0 q1 q2 q3 s0 s1 s2 s3 (v3 p1 p2 p3) (v3 r1 r2 r3) hq hs c_1 c_2 c_3 c_4 (frT 0 0 0 x1 x2 x3 y1 y2 y3 z1 z2 z3) (frT 0 0 0 a1 a2 a3 b1 b2 b3 c1 c2 c3) (frT 0 0 0 x1 y1 z1 x2 y2 z2 x3 y3 z3) (frT 0 0 0 _ _ _ _ _ _ _ _ _) (v3 _ _ _) (v3 _ _ _) (v3 _ _ _) (v3 _ _ _) _ _ _ _ _ _ _ _ c_tf c_tg c_kf c_kg (v3 1 1 1) c_st c_v c_iv c_n1 c_n2 c_n3 c_tc c_j0 c_j1 c_j2 c_j3 c_tm c_fg p_a p_b (chk_V va) (chk_V vb) c_kfg p_x p_y p_z p_u c_d1 c_d2
theorem w_Turns (q0 q1 q2 q3 s0 s1 s2 s3:List UInt8) (p r:V3):Ax.Pure Tryz.prog G 9 [txQ q0 q1 q2 q3,txQ s0 s1 s2 s3,tx6 p r] (Bo true):=by
  obtain ⟨t1,c_1,g1⟩:=r_FewList4 q0 q1 q2 q3 3 (by decide)
  obtain ⟨t2,c_2,g2⟩:=r_FewList4 s0 s1 s2 s3 3 (by decide)
  obtain ⟨t3,c_3,g3⟩:=r_FewVAny p 3 (by decide)
  obtain ⟨t4,c_4,g4⟩:=r_FewVAny r 3 (by decide)
  by_cases h4:t1=true∧t2=true∧t3=true∧t4=true
  rotate_left
  · exact tn_few q0 q1 q2 q3 s0 s1 s2 s3 p r t1 t2 t3 t4 h4 c_1 c_2 c_3 c_4
  obtain ⟨rfl,rfl,rfl,rfl⟩:=h4
  obtain ⟨a0,a1,a2,a3,⟨rfl,rfl,rfl,rfl⟩,⟨ka,kb,kc,kd⟩,qa,qb,qc,qd⟩:=g1 rfl
  obtain ⟨b0,b1,b2,b3,⟨rfl,rfl,rfl,rfl⟩,⟨la,lb,lc',ld⟩,ra',rb',rc',rd⟩:=g2 rfl
  obtain ⟨p1,p2,p3,rfl,op,qp⟩:=g3 rfl
  obtain ⟨r1,r2,r3,rfl,or',qr⟩:=g4 rfl
  by_cases hz:(a0=0∧a1=0∧a2=0∧a3=0)∨(b0=0∧b1=0∧b2=0∧b3=0)
  · exact tn_zero a0 a1 a2 a3 b0 b1 b2 b3 (v3 p1 p2 p3) (v3 r1 r2 r3) hz c_1 c_2 c_3 c_4
  exact tn_main a0 a1 a2 a3 b0 b1 b2 b3 p1 p2 p3 r1 r2 r3 ka ⟨kb,kc,kd⟩ la ⟨lb,lc',ld⟩ op or' (fun h=>hz (.inl h)) (fun h=>hz (.inr h)) ⟨qa,qb,qc,qd⟩ ⟨ra',rb',rc',rd⟩ qp qr c_1 c_2 c_3 c_4
end Go.Proofs
end
