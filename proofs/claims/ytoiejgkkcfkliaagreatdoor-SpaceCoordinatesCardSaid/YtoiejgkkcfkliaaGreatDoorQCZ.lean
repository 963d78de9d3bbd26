/- Lemmas on the program and its library: part QCZ. -/
import Derived.Test.YtoiejgkkcfkliaaGreatDoorQC
import Derived.Test.YtoiejgkkcfkliaaGreatDoorQC16
set_option linter.unusedVariables false
set_option linter.unusedSimpArgs false
section
set_option maxHeartbeats 8000000
set_option maxRecDepth 100000
namespace Go.Proofs
open Go.Ax
theorem r_FewHAny (x y z:Int) (d:List UInt8) (m n:Nat) (hm:m≤1000000) (hn:n≤1000) (hd:d.length≤9223372036854775807):∃t:Bool,Ax.Pure Tryz.prog G 54 [tH x y z d,N m,N n] (Bo t)∧(t=true→∃w:Rat,d=ratL w∧okH x y z w∧Q (4*n) w∧x.natAbs≤m∧y.natAbs≤m∧z.natAbs≤m):=by
  have c_c:=r_CheckHalfE x y z d _ (r_CheckL d hd)
  obtain ⟨b,c_d,g⟩:=r_FewAny d n hn
  by_cases he:chkE x y z (checkL d)=0
  rotate_left
  · refine ⟨false,?_,fun h=>by cases h⟩
    clear g
    generalize chkE x y z (checkL d)=E at *
    refine zen Tryz.func54 rfl Tryz.ntmps54 ?_
    intro w0 E0 hc
    repeat' (first|(with_reducible first|refine Wp_seq ?_|refine zr0 hc ?_|refine zm0 hc ?_|refine zwk ?_|refine Wp_block ?_|refine zgo ?_|refine zbn ?_|refine zge Tryz.results54 ?_|refine Sub.refl _|refine allP_nil|refine zoa1 (out':=?_) ?_|refine zca1 (y:=?_) ?_|refine zea1 (eo':=?_) ?_)|(with_reducible refine allP_cons ?_ ?_;focus (first|decide|omega))|(with_reducible first|refine zg2 ?_ ?_|refine zoc c_c ?_ ?_|refine zoc c_d ?_ ?_|refine zbo ?_|refine zg3 ?_ (fun h=>?_) (fun h=>?_)|refine zg4 (fun h=>?_) (fun h=>?_)|fail)|((first|omega|(refine absurd h ?_;decide)|fail);done))
  rw [he] at c_c
  obtain ⟨w,rfl,hw⟩:=goodH (show chkH x y z d=0 from he)
  clear he
  cases b
  · refine ⟨false,?_,fun h=>by cases h⟩
    clear g
    refine zen Tryz.func54 rfl Tryz.ntmps54 ?_
    intro w0 E0 hc
    repeat' (first|(with_reducible first|refine Wp_seq ?_|refine zr0 hc ?_|refine zm0 hc ?_|refine zwk ?_|refine Wp_block ?_|refine zgo ?_|refine zbn ?_|refine zge Tryz.results54 ?_|refine Sub.refl _|refine allP_nil|refine zoa1 (out':=?_) ?_|refine zca1 (y:=?_) ?_|refine zea1 (eo':=?_) ?_)|(with_reducible refine allP_cons ?_ ?_;focus (first|decide|omega))|(with_reducible first|refine zg2 ?_ ?_|refine zoc c_c ?_ ?_|refine zoc c_d ?_ ?_|refine zbo ?_|refine zg3 ?_ (fun h=>?_) (fun h=>?_)|refine zg4 (fun h=>?_) (fun h=>?_)|fail)|((first|omega|(refine absurd h ?_;decide)|fail);done))
  obtain ⟨w',e,bw,qw⟩:=g rfl
  obtain rfl:=ratL_inj e
  refine ⟨decide (x.natAbs≤m∧y.natAbs≤m∧z.natAbs≤m),?_,fun h=>⟨w,rfl,hw,qw,of_decide_eq_true h⟩⟩
  have hF:¬(x.natAbs≤m∧y.natAbs≤m∧z.natAbs≤m)→false=decide (x.natAbs≤m∧y.natAbs≤m∧z.natAbs≤m):=fun h=>(decide_eq_false h).symm
  have hT:(x.natAbs≤m∧y.natAbs≤m∧z.natAbs≤m)→true=decide (x.natAbs≤m∧y.natAbs≤m∧z.natAbs≤m):=fun h=>(decide_eq_true h).symm
  have hw0:IntKind.i64.wrap (0 - (m:Int))=0 - (m:Int):=w64 (by omega) (by omega)
  clear g e bw qw hw
  refine zen Tryz.func54 rfl Tryz.ntmps54 ?_
  intro w0 E0 hc
  repeat' (first|(with_reducible first|refine Wp_seq ?_|refine zr0 hc ?_|refine zm0 hc ?_|refine zwk ?_|refine Wp_block ?_|refine zgo ?_|refine zbn ?_|refine zge Tryz.results54 ?_|refine Sub.refl _|refine allP_nil|refine zoa1 (out':=?_) ?_|refine zca1 (y:=?_) ?_|refine zea1 (eo':=?_) ?_)|(with_reducible refine allP_cons ?_ ?_;focus (first|decide|omega))|(with_reducible first|refine zg2 ?_ ?_|refine zoc c_c ?_ ?_|refine zoc c_d ?_ ?_|refine zbo ?_|refine zg3 ?_ (fun h=>?_) (fun h=>?_)|refine zg4 (fun h=>?_) (fun h=>?_)|fail)|((first|omega|(refine absurd h ?_;decide)|fail);done))
  refine Wp_loopI (α:=Nat) (fun i=>stOf [(1,N m),(3,.one (.ptr 0 4 0 0)),(7,N i)] [(0,⟨4,1,fun _=> [.v (.int .i64 x),.v (.int .i64 y),.v (.int .i64 z),.v (.string (bs (ratL w)))],false⟩)] 1)
    (fun i=>i≤3∧(0 < i→x.natAbs≤m)∧(1 < i→y.natAbs≤m)∧(2 < i→z.natAbs≤m)) (fun i=>3 - i) 0 ⟨Nat.zero_le _,by omega,by omega,by omega⟩ ?_ ?_
  · refine zW1 ?_ <;> repeat' (with_reducible first|exact trivial|refine zan ?_ ?_|refine zal (fun i hi=>?_))
  · rintro i ⟨hi,h1,h2,h3⟩
    have:i=0∨i=1∨i=2∨i=3:=by omega
    rcases this with rfl|rfl|rfl|rfl
    · repeat' (first|(with_reducible first|refine Wp_seq ?_|refine zr0 hc ?_|refine zm0 hc ?_|refine zwk ?_|refine Wp_block ?_|refine zgo ?_|refine zbn ?_|refine zge Tryz.results54 ?_|refine Sub.refl _|refine allP_nil|refine zoa1 (out':=?_) ?_|refine zca1 (y:=?_) ?_|refine zea1 (eo':=?_) ?_)|(with_reducible refine allP_cons ?_ ?_;focus (first|decide|omega))|(with_reducible first|refine zg2 ?_ ?_|refine zbo ?_|refine zg3 ?_ (fun h=>?_) (fun h=>?_)|refine zg4 (fun h=>?_) (fun h=>?_)|fail)|(omega;done))
      · exact sub_eq (congrArg Bo (hF (by omega)))
      · refine ⟨1,⟨by omega,by omega,by omega,by omega⟩,by omega,?_⟩
        refine zW1 ?_ <;> repeat' (with_reducible first|exact trivial|refine zan ?_ ?_|refine zal (fun i hi=>?_))
      · exact sub_eq (congrArg Bo (hF (by omega)))
    · repeat' (first|(with_reducible first|refine Wp_seq ?_|refine zr0 hc ?_|refine zm0 hc ?_|refine zwk ?_|refine Wp_block ?_|refine zgo ?_|refine zbn ?_|refine zge Tryz.results54 ?_|refine Sub.refl _|refine allP_nil|refine zoa1 (out':=?_) ?_|refine zca1 (y:=?_) ?_|refine zea1 (eo':=?_) ?_)|(with_reducible refine allP_cons ?_ ?_;focus (first|decide|omega))|(with_reducible first|refine zg2 ?_ ?_|refine zbo ?_|refine zg3 ?_ (fun h=>?_) (fun h=>?_)|refine zg4 (fun h=>?_) (fun h=>?_)|fail)|(omega;done))
      · exact sub_eq (congrArg Bo (hF (by omega)))
      · refine ⟨2,⟨by omega,by omega,by omega,by omega⟩,by omega,?_⟩
        refine zW1 ?_ <;> repeat' (with_reducible first|exact trivial|refine zan ?_ ?_|refine zal (fun i hi=>?_))
      · exact sub_eq (congrArg Bo (hF (by omega)))
    · repeat' (first|(with_reducible first|refine Wp_seq ?_|refine zr0 hc ?_|refine zm0 hc ?_|refine zwk ?_|refine Wp_block ?_|refine zgo ?_|refine zbn ?_|refine zge Tryz.results54 ?_|refine Sub.refl _|refine allP_nil|refine zoa1 (out':=?_) ?_|refine zca1 (y:=?_) ?_|refine zea1 (eo':=?_) ?_)|(with_reducible refine allP_cons ?_ ?_;focus (first|decide|omega))|(with_reducible first|refine zg2 ?_ ?_|refine zbo ?_|refine zg3 ?_ (fun h=>?_) (fun h=>?_)|refine zg4 (fun h=>?_) (fun h=>?_)|fail)|(omega;done))
      · exact sub_eq (congrArg Bo (hF (by omega)))
      · refine ⟨3,⟨by omega,by omega,by omega,by omega⟩,by omega,?_⟩
        refine zW1 ?_ <;> repeat' (with_reducible first|exact trivial|refine zan ?_ ?_|refine zal (fun i hi=>?_))
      · exact sub_eq (congrArg Bo (hF (by omega)))
    · repeat' (first|(with_reducible first|refine Wp_seq ?_|refine zr0 hc ?_|refine zm0 hc ?_|refine zwk ?_|refine Wp_block ?_|refine zgo ?_|refine zbn ?_|refine zge Tryz.results54 ?_|refine Sub.refl _|refine allP_nil|refine zoa1 (out':=?_) ?_|refine zca1 (y:=?_) ?_|refine zea1 (eo':=?_) ?_)|(with_reducible refine allP_cons ?_ ?_;focus (first|decide|omega))|(with_reducible first|refine zg2 ?_ ?_|refine zbo ?_|refine zg3 ?_ (fun h=>?_) (fun h=>?_)|refine zg4 (fun h=>?_) (fun h=>?_)|fail)|(omega;done))
      · exact sub_eq (congrArg Bo (hT (by omega)))
theorem len_in {s:ByteArray} (h:s.size≤maxLen):s.data.toList.length≤9223372036854775807:=by
  rw [Array.length_toList];exact h
end Go.Proofs
end
section
set_option maxHeartbeats 8000000
set_option maxRecDepth 100000
namespace Go.Proofs
open Go.Ax
theorem w_Coordinates (a b c d p:V3) (h:H4) (hi:i64 h.x∧i64 h.y∧i64 h.z) (hd:h.d.length≤9223372036854775807):Ax.Pure Tryz.prog G 11 [txF a b c d,txV p,txH h] (Bo true):=by
  obtain ⟨x,y,z,t⟩:=h
  obtain ⟨t1,c_f,g1⟩:=r_FewFAny a b c d 4 (by decide)
  obtain ⟨t2,c_p,g2⟩:=r_FewVAny p 4 (by decide)
  obtain ⟨t3,c_h,g3⟩:=r_FewHAny x y z t 100 4 (by decide) (by decide) hd
  by_cases h3:t1=true∧t2=true∧t3=true
  rotate_left
  · exact co_few a b c d p x y z t t1 t2 t3 h3 c_f c_p c_h
  obtain ⟨rfl,rfl,rfl⟩:=h3
  obtain ⟨o1,o2,o3,x1,x2,x3,y1,y2,y3,z1,z2,z3,⟨rfl,rfl,rfl,rfl⟩,hF,qo,qx,qy,qz⟩:=g1 rfl
  obtain ⟨p1,p2,p3,rfl,op,qp⟩:=g2 rfl
  obtain ⟨w,rfl,hh,_,_⟩:=g3 rfl
  exact co_main o1 o2 o3 x1 x2 x3 y1 y2 y3 z1 z2 z3 p1 p2 p3 x y z w hF op hh qo qx qy qz qp c_f c_p c_h
end Go.Proofs
end
