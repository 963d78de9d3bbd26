/- Lemmas on the program and its library: part XL6a. -/
import Derived.Test.YtoiejgkkcfkliaaGreatDoorXVL
import Derived.Test.YtoiejgkkcfkliaaGreatDoorXW26
set_option linter.unusedVariables false
set_option linter.unusedSimpArgs false
section
set_option maxHeartbeats 4000000
set_option maxRecDepth 100000
namespace Go.Proofs
open Go.Ax
theorem l_when (b:Bool) (e:Int):Ax.Pure Tryz.prog G 64 [Bo b,N e] (N (if b=true then e else 0)):=by
  refine zen Tryz.func64 rfl Tryz.ntmps64 ?_
  intro w0 E0 hc
  cases b
  · repeat' (first|refine zR1 hc Tryz.results64 ?_|(with_reducible first|exact trivial|refine zan ?_ ?_|refine zim (fun h=>?_)|fail)|(omega;done))
    all_goals exact Sub.refl _
  · repeat' (first|refine zR1 hc Tryz.results64 ?_|(with_reducible first|exact trivial|refine zan ?_ ?_|refine zim (fun h=>?_)|fail)|(omega;done))
    all_goals exact Sub.refl _
end Go.Proofs
end
section
set_option maxHeartbeats 4000000
set_option maxRecDepth 100000
namespace Go.Proofs
open Go.Ax
theorem r_Along (a1 a2 a3 b1 b2 b3:Rat) (ha:okV a1 a2 a3) (hb:okV b1 b2 b3) (h0:¬(a1=0∧a2=0∧a3=0)):Ax.Pure Tryz.prog G 113 [tV (ratL a1) (ratL a2) (ratL a3),tV (ratL b1) (ratL b2) (ratL b3)]
    (.tup [S (bs (ratL (dot3 a1 a2 a3 b1 b2 b3 / dot3 a1 a2 a3 a1 a2 a3))),Bo (decide (dot3 a1 a2 a3 b1 b2 b3 / dot3 a1 a2 a3 a1 a2 a3*a1=b1∧dot3 a1 a2 a3 b1 b2 b3 / dot3 a1 a2 a3 a1 a2 a3*a2=b2∧dot3 a1 a2 a3 b1 b2 b3 / dot3 a1 a2 a3 a1 a2 a3*a3=b3))]):=by
  have qa:=okV_Q ha
  have qb:=okV_Q hb
  have c_ab:=r_Dot (k:=2400) (by decide) a1 a2 a3 b1 b2 b3 qa qb
  have c_aa:=r_Square (k:=2400) (by decide) a1 a2 a3 qa
  obtain ⟨qa1,qa2,qa3⟩:=qa
  obtain ⟨qb1,qb2,qb3⟩:=qb
  have q1:Q 20000 (dot3 a1 a2 a3 b1 b2 b3):=Q_of (Q_dot qa1 qa2 qa3 qb1 qb2 qb3) rfl
  have q2:Q 20000 (dot3 a1 a2 a3 a1 a2 a3):=Q_of (Q_dot qa1 qa2 qa3 qa1 qa2 qa3) rfl
  have c_dv:=r_Div _ _ (dot_pos h0) q1 q2 (by decide)
  have qt:=Q_div q1 q2
  generalize dot3 a1 a2 a3 b1 b2 b3 / dot3 a1 a2 a3 a1 a2 a3=t at *
  have c_s:=r_Scale (k:=40000) (by decide) t a1 a2 a3 (Q_of qt rfl) ⟨Q_of qa1 rfl,Q_of qa2 rfl,Q_of qa3 rfl⟩
  refine zen Tryz.func113 rfl Tryz.ntmps113 ?_
  intro w0 E0 hc
  repeat' (first|refine zR1 hc Tryz.results113 ?_|(with_reducible first|exact trivial|refine zan ?_ ?_|refine zim (fun h=>?_)|refine zoc c_ab ?_ ?_|refine zoc c_aa ?_ ?_|refine zoc c_dv ?_ ?_|refine zoc c_s ?_ ?_|fail)|(omega;done))
  all_goals
    refine sub_eq (congrArg (fun b=>AV.tup [S (bs (ratL t)),Bo b]) ?_)
    rw [rat_beq,rat_beq,rat_beq]
    by_cases h1:t*a1=b1 <;> by_cases h2:t*a2=b2 <;> by_cases h3:t*a3=b3 <;> simp [h1,h2,h3]
end Go.Proofs
end
section
namespace Go.Proofs
open Go.Ax
theorem nz2 {a b:Int} (h:b≠0):firstNZ [a,b]≠0:=by
  unfold firstNZ
  split
  · rw [nz1 h];exact h
  · assumption
def okN (f g:FuncId) (l:List AV):Prop:=∃(t u:ByteArray) (e:Int),Ax.Pure Tryz.prog G f l (.tup [S t,N e])∧Ax.Pure Tryz.prog G g l (S u)∧Ax.Pure Tryz.prog G 25 [S t,N e,N 0,S u] (Bo true)
theorem okN_of {f g:FuncId} {l:List AV} {q:Rat} (h:Q 900000 q) (a:Ax.Pure Tryz.prog G f l (.tup [S (bs (txl (bigQ q) q)),N (exl (bigQ q))])) (b:Ax.Pure Tryz.prog G g l (S (bs (ratL q)))):okN f g l:=
  ⟨_,_,_,a,b,l_num_ok (by decide) q h⟩
theorem ok_square {a:V3} (h:fstVec a=0):okN 88 57 [txV a]:=by
  obtain ⟨a1,a2,a3,rfl,oa⟩:=goodV h
  obtain ⟨q1,q2,q3⟩:=okV_Q oa
  exact okN_of (Q_of (Q_dot q1 q2 q3 q1 q2 q3) rfl) (s_Square a1 a2 a3 oa) (r_Square (k:=2400) (by decide) a1 a2 a3 (okV_Q oa))
theorem ok_scale {c:List UInt8} {a:V3} (hc:checkL c=0) (h:fstVec a=0):okP 90 112 [S (bs c),txV a]:=by
  obtain ⟨c,rfl,oc⟩:=checkL_zero hc
  obtain ⟨a1,a2,a3,rfl,oa⟩:=goodV h
  obtain ⟨q1,q2,q3⟩:=okV_Q oa
  have s:=s_Scale c a1 a2 a3 oc oa
  rw [Rat.mul_comm a1,Rat.mul_comm a2,Rat.mul_comm a3] at s
  exact okP_of ⟨Q_of (Q_mul (bigQ_Q oc) q1) rfl,Q_of (Q_mul (bigQ_Q oc) q2) rfl,Q_of (Q_mul (bigQ_Q oc) q3) rfl⟩ s (r_Scale (k:=2400) (by decide) c a1 a2 a3 (bigQ_Q oc) (okV_Q oa))
theorem ok_two {a b:V3} (h:fstVec a=0) (k:fstVec b=0):okP 110 84 [txV a,txV b]∧okP 111 58 [txV a,txV b]∧okN 87 76 [txV a,txV b]∧okP 86 78 [txV a,txV b]:=by
  obtain ⟨a1,a2,a3,rfl,oa⟩:=goodV h
  obtain ⟨b1,b2,b3,rfl,ob⟩:=goodV k
  obtain ⟨p1,p2,p3⟩:=okV_Q oa
  obtain ⟨q1,q2,q3⟩:=okV_Q ob
  have qa:=okV_Q oa
  have qb:=okV_Q ob
  exact ⟨okP_of ⟨Q_of (Q_add p1 q1) rfl,Q_of (Q_add p2 q2) rfl,Q_of (Q_add p3 q3) rfl⟩ (s_AddVec a1 a2 a3 b1 b2 b3 oa ob) (r_AddVec (k:=2400) (by decide) a1 a2 a3 b1 b2 b3 qa qb),
    okP_of ⟨Q_of (Q_sub p1 q1) rfl,Q_of (Q_sub p2 q2) rfl,Q_of (Q_sub p3 q3) rfl⟩ (s_SubVec a1 a2 a3 b1 b2 b3 oa ob) (r_SubVec (k:=2400) (by decide) a1 a2 a3 b1 b2 b3 qa qb),
    okN_of (Q_of (Q_dot p1 p2 p3 q1 q2 q3) rfl) (s_Dot a1 a2 a3 b1 b2 b3 oa ob) (r_Dot (k:=2400) (by decide) a1 a2 a3 b1 b2 b3 qa qb),
    okP_of ⟨Q_of (Q_sub (Q_mul p2 q3) (Q_mul p3 q2)) rfl,Q_of (Q_sub (Q_mul p3 q1) (Q_mul p1 q3)) rfl,Q_of (Q_sub (Q_mul p1 q2) (Q_mul p2 q1)) rfl⟩ (s_Cross a1 a2 a3 b1 b2 b3 oa ob) (r_Cross (k:=2400) (by decide) a1 a2 a3 b1 b2 b3 qa qb)⟩
def okA (l:List AV):Prop:=∃(t u:ByteArray) (e w:Int) (b:Bool),Ax.Pure Tryz.prog G 91 l (.tup [S t,N e])∧Ax.Pure Tryz.prog G 113 l (.tup [S u,Bo b])∧Ax.Pure Tryz.prog G 64 [Bo (!b),N 7] (N w)∧Ax.Pure Tryz.prog G 25 [S t,N e,N w,S u] (Bo true)
theorem ok_along {a b:V3} (h:fstVec a=0) (k:fstVec b=0):(Ax.Pure Tryz.prog G 79 [txV a] (Bo true)∧Ax.Pure Tryz.prog G 91 [txV a,txV b] (.tup [S (bs []),N 6]))∨(Ax.Pure Tryz.prog G 79 [txV a] (Bo false)∧okA [txV a,txV b]):=by
  obtain ⟨a1,a2,a3,rfl,oa⟩:=goodV h
  obtain ⟨b1,b2,b3,rfl,ob⟩:=goodV k
  obtain ⟨p1,p2,p3⟩:=okV_Q oa
  obtain ⟨q1,q2,q3⟩:=okV_Q ob
  have r_or:=r_IsOrigin a1 a2 a3
  by_cases h0:a1=0∧a2=0∧a3=0
  · rw [decide_eq_true h0] at r_or
    obtain ⟨rfl,rfl,rfl⟩:=h0
    exact .inl ⟨r_or,s_Along0 b1 b2 b3 ob⟩
  · rw [decide_eq_false h0] at r_or
    have r_al:=r_Along a1 a2 a3 b1 b2 b3 oa ob h0
    refine .inr ⟨r_or,?_⟩
    by_cases hs:a1*(dot3 a1 a2 a3 b1 b2 b3 / dot3 a1 a2 a3 a1 a2 a3)=b1∧a2*(dot3 a1 a2 a3 b1 b2 b3 / dot3 a1 a2 a3 a1 a2 a3)=b2∧a3*(dot3 a1 a2 a3 b1 b2 b3 / dot3 a1 a2 a3 a1 a2 a3)=b3
    · have c_al:=s_Along a1 a2 a3 b1 b2 b3 oa ob h0 hs
      rw [Rat.mul_comm a1,Rat.mul_comm a2,Rat.mul_comm a3] at hs
      rw [decide_eq_true hs] at r_al
      exact ⟨_,_,_,_,_,c_al,r_al,l_when _ _,l_num_ok (k:=40000) (by decide) _ (Q_of (Q_div (Q_dot p1 p2 p3 q1 q2 q3) (Q_dot p1 p2 p3 p1 p2 p3)) rfl)⟩
    · have c_al:=s_Along_no a1 a2 a3 b1 b2 b3 oa ob h0 hs
      rw [Rat.mul_comm a1,Rat.mul_comm a2,Rat.mul_comm a3] at hs
      rw [decide_eq_false hs] at r_al
      exact ⟨_,_,_,_,_,c_al,r_al,l_when _ _,l_num_bad 7 (by decide) _⟩
theorem bad_two {a b:V3} (sa:shortV a) (sb:shortV b) {e:Int} (h:fstVs [a,b]=e) (he:e≠0):Ax.Pure Tryz.prog G 110 [txV a,txV b] (.tup [tV [] [] [],N e])∧Ax.Pure Tryz.prog G 111 [txV a,txV b] (.tup [tV [] [] [],N e])∧Ax.Pure Tryz.prog G 87 [txV a,txV b] (.tup [S (bs []),N e])∧Ax.Pure Tryz.prog G 86 [txV a,txV b] (.tup [tV [] [] [],N e])∧Ax.Pure Tryz.prog G 91 [txV a,txV b] (.tup [S (bs []),N e]):=by
  subst h
  exact ⟨s_AddVec_err a b sa sb he,s_SubVec_err a b sa sb he,s_Dot_err a b sa sb he,s_Cross_err a b sa sb he,s_Along_err a b sa sb he⟩
end Go.Proofs
end
