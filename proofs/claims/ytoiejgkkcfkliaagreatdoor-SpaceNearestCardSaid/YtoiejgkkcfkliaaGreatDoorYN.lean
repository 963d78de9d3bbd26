/- Lemmas on the program and its library: part YN. -/
import Derived.Test.YtoiejgkkcfkliaaGreatDoorYN16
import Derived.Test.YtoiejgkkcfkliaaGreatDoorYNW
set_option linter.unusedVariables false
set_option linter.unusedSimpArgs false
section
namespace Go.Proofs
open Go.Ax
theorem prj (p x t:Rat):p+x*(-t)=p - t*x:=by grind
theorem mir (p x t:Rat):p+x*(-t)+x*(-t)=2*(p - t*x) - p:=by grind
end Go.Proofs
end
section
set_option maxHeartbeats 8000000
set_option maxRecDepth 100000
namespace Go.Proofs
open Go.Ax
theorem a1r (x y z:Int) (d:List UInt8) (m n:Nat) (hm:m≤1000000) (hn:n≤1000) (hd:d.length≤9223372036854775807):∃t:Bool,Ax.Pure Tryz.prog G 54 [tH x y z d,N m,N n] (Bo t)∧(t=true→∃w:Rat,d=ratL w∧okH x y z w∧Q (4*n) w∧x.natAbs≤m∧y.natAbs≤m∧z.natAbs≤m):=by
  have c_c:=a3p x y z d _ (a4p d hd)
  obtain ⟨b,c_d,g⟩:=a3o d n hn
  by_cases he:a4a x y z (checkL d)=0
  rotate_left
  · refine ⟨false,?_,fun h=>by cases h⟩
    clear g
    generalize a4a x y z (checkL d)=E at *
    refine zen Tryz.func54 rfl Tryz.ntmps54 ?_
    intro w0 E0 hc
    repeat' (first|(with_reducible first|refine Wp_seq ?_|refine zr0 hc ?_|refine zm0 hc ?_|refine zwk ?_|refine Wp_block ?_|refine zgo ?_|refine zbn ?_|refine zge Tryz.results54 ?_|refine Sub.refl _|refine allP_nil|refine zoa1 (out':=?_) ?_|refine zca1 (y:=?_) ?_|refine zea1 (eo':=?_) ?_)|(with_reducible refine allP_cons ?_ ?_;focus (first|decide|omega))|(with_reducible first|refine zg2 ?_ ?_|refine zoc c_c ?_ ?_|refine zoc c_d ?_ ?_|refine zbo ?_|refine zg3 ?_ (fun h=>?_) (fun h=>?_)|refine zg4 (fun h=>?_) (fun h=>?_)|fail)|((first|omega|(refine absurd h ?_;decide)|fail);done))
  rw [he] at c_c
  obtain ⟨w,rfl,hw⟩:=a4c (show chkH x y z d=0 from he)
  clear he
  cases b
  · refine ⟨false,?_,fun h=>by cases h⟩
    clear g
    refine zen Tryz.func54 rfl Tryz.ntmps54 ?_
    intro w0 E0 hc
    repeat' (first|(with_reducible first|refine Wp_seq ?_|refine zr0 hc ?_|refine zm0 hc ?_|refine zwk ?_|refine Wp_block ?_|refine zgo ?_|refine zbn ?_|refine zge Tryz.results54 ?_|refine Sub.refl _|refine allP_nil|refine zoa1 (out':=?_) ?_|refine zca1 (y:=?_) ?_|refine zea1 (eo':=?_) ?_)|(with_reducible refine allP_cons ?_ ?_;focus (first|decide|omega))|(with_reducible first|refine zg2 ?_ ?_|refine zoc c_c ?_ ?_|refine zoc c_d ?_ ?_|refine zbo ?_|refine zg3 ?_ (fun h=>?_) (fun h=>?_)|refine zg4 (fun h=>?_) (fun h=>?_)|fail)|((first|omega|(refine absurd h ?_;decide)|fail);done))
  obtain ⟨w',e,bw,qw⟩:=g rfl
  obtain rfl:=ratL_inj e
  refine ⟨decide (x.natAbs≤m∧y.natAbs≤m∧z.natAbs≤m),?_,fun h=>⟨w,rfl,hw,qw,of_decide_eq_true h⟩⟩
  have hF:¬(x.natAbs≤m∧y.natAbs≤m∧z.natAbs≤m)→false=decide (x.natAbs≤m∧y.natAbs≤m∧z.natAbs≤m):=fun h=>(decide_eq_false h).symm
  have hT:(x.natAbs≤m∧y.natAbs≤m∧z.natAbs≤m)→true=decide (x.natAbs≤m∧y.natAbs≤m∧z.natAbs≤m):=fun h=>(decide_eq_true h).symm
  have hw0:IntKind.i64.wrap (0 - (m:Int))=0 - (m:Int):=w64 (by omega) (by omega)
  clear g e bw qw hw
  refine zen Tryz.func54 rfl Tryz.ntmps54 ?_
  intro w0 E0 hc
  repeat' (first|(with_reducible first|refine Wp_seq ?_|refine zr0 hc ?_|refine zm0 hc ?_|refine zwk ?_|refine Wp_block ?_|refine zgo ?_|refine zbn ?_|refine zge Tryz.results54 ?_|refine Sub.refl _|refine allP_nil|refine zoa1 (out':=?_) ?_|refine zca1 (y:=?_) ?_|refine zea1 (eo':=?_) ?_)|(with_reducible refine allP_cons ?_ ?_;focus (first|decide|omega))|(with_reducible first|refine zg2 ?_ ?_|refine zoc c_c ?_ ?_|refine zoc c_d ?_ ?_|refine zbo ?_|refine zg3 ?_ (fun h=>?_) (fun h=>?_)|refine zg4 (fun h=>?_) (fun h=>?_)|fail)|((first|omega|(refine absurd h ?_;decide)|fail);done))
  refine Wp_loopI (α:=Nat) (fun i=>stOf [(1,N m),(3,.one (.ptr 0 4 0 0)),(7,N i)] [(0,⟨4,1,fun _=> [.v (.int .i64 x),.v (.int .i64 y),.v (.int .i64 z),.v (.string (bs (ratL w)))],false⟩)] 1)
    (fun i=>i≤3∧(0 < i→x.natAbs≤m)∧(1 < i→y.natAbs≤m)∧(2 < i→z.natAbs≤m)) (fun i=>3 - i) 0 ⟨Nat.zero_le _,by omega,by omega,by omega⟩ ?_ ?_
  · refine zwa1 (l1:=?_) (h1:=?_) ?_ ?_ <;> (repeat' (first|(with_reducible first|exact slotsOk_nil|exact boxesOk_nil|refine slotsOk_eq ?_ ?_|refine slotsOk_cons ?_ ?_ ?_|refine boxesOk_one rfl ?_ ?_ ?_|refine boxesOk_cons rfl (fun i hi=>?_) ?_ (fun i hi=>?_) ?_|refine sub_int ?_|refine sub_own_eq ?_ ?_|refine sub_gr_eq ?_ ?_|exact sub_nil_gr|exact sub_own_gr)|(first|omega|(simp only [IntKind.wrap_i64,IntKind.wrap_u64,List.length_append,List.length_singleton,List.length_cons,List.length_nil];omega))|((first|show AV.cl _ _|show clL _ _);simp [AV.cl,clL,Leaf.cl,clV];done)|(dsimp only [ite00];done)|(with_reducible first|exact SubLv.refl _|refine subLv_int ?_ ?_|refine subLv_frac ?_ ?_)|(dsimp only [ite00];with_reducible exact SubLv.refl _)|fail))
  · rintro i ⟨hi,h1,h2,h3⟩
    have:i=0∨i=1∨i=2∨i=3:=by omega
    rcases this with rfl|rfl|rfl|rfl
    · repeat' (first|(with_reducible first|refine Wp_seq ?_|refine zr0 hc ?_|refine zm0 hc ?_|refine zwk ?_|refine Wp_block ?_|refine zgo ?_|refine zbn ?_|refine zge Tryz.results54 ?_|refine Sub.refl _|refine allP_nil|refine zoa1 (out':=?_) ?_|refine zca1 (y:=?_) ?_|refine zea1 (eo':=?_) ?_)|(with_reducible refine allP_cons ?_ ?_;focus (first|decide|omega))|(with_reducible first|refine zg2 ?_ ?_|refine zbo ?_|refine zg3 ?_ (fun h=>?_) (fun h=>?_)|refine zg4 (fun h=>?_) (fun h=>?_)|fail)|(omega;done))
      · exact sub_eq (congrArg Bo (hF (by omega)))
      · refine ⟨1,⟨by omega,by omega,by omega,by omega⟩,by omega,?_⟩
        refine zwa1 (l1:=?_) (h1:=?_) ?_ ?_ <;> (repeat' (first|(with_reducible first|exact slotsOk_nil|exact boxesOk_nil|refine slotsOk_eq ?_ ?_|refine slotsOk_cons ?_ ?_ ?_|refine boxesOk_one rfl ?_ ?_ ?_|refine boxesOk_cons rfl (fun i hi=>?_) ?_ (fun i hi=>?_) ?_|refine sub_int ?_|refine sub_own_eq ?_ ?_|refine sub_gr_eq ?_ ?_|exact sub_nil_gr|exact sub_own_gr)|(first|omega|(simp only [IntKind.wrap_i64,IntKind.wrap_u64,List.length_append,List.length_singleton,List.length_cons,List.length_nil];omega))|((first|show AV.cl _ _|show clL _ _);simp [AV.cl,clL,Leaf.cl,clV];done)|(dsimp only [ite00];done)|(with_reducible first|exact SubLv.refl _|refine subLv_int ?_ ?_|refine subLv_frac ?_ ?_)|(dsimp only [ite00];with_reducible exact SubLv.refl _)|fail))
      · exact sub_eq (congrArg Bo (hF (by omega)))
    · repeat' (first|(with_reducible first|refine Wp_seq ?_|refine zr0 hc ?_|refine zm0 hc ?_|refine zwk ?_|refine Wp_block ?_|refine zgo ?_|refine zbn ?_|refine zge Tryz.results54 ?_|refine Sub.refl _|refine allP_nil|refine zoa1 (out':=?_) ?_|refine zca1 (y:=?_) ?_|refine zea1 (eo':=?_) ?_)|(with_reducible refine allP_cons ?_ ?_;focus (first|decide|omega))|(with_reducible first|refine zg2 ?_ ?_|refine zbo ?_|refine zg3 ?_ (fun h=>?_) (fun h=>?_)|refine zg4 (fun h=>?_) (fun h=>?_)|fail)|(omega;done))
      · exact sub_eq (congrArg Bo (hF (by omega)))
      · refine ⟨2,⟨by omega,by omega,by omega,by omega⟩,by omega,?_⟩
        refine zwa1 (l1:=?_) (h1:=?_) ?_ ?_ <;> (repeat' (first|(with_reducible first|exact slotsOk_nil|exact boxesOk_nil|refine slotsOk_eq ?_ ?_|refine slotsOk_cons ?_ ?_ ?_|refine boxesOk_one rfl ?_ ?_ ?_|refine boxesOk_cons rfl (fun i hi=>?_) ?_ (fun i hi=>?_) ?_|refine sub_int ?_|refine sub_own_eq ?_ ?_|refine sub_gr_eq ?_ ?_|exact sub_nil_gr|exact sub_own_gr)|(first|omega|(simp only [IntKind.wrap_i64,IntKind.wrap_u64,List.length_append,List.length_singleton,List.length_cons,List.length_nil];omega))|((first|show AV.cl _ _|show clL _ _);simp [AV.cl,clL,Leaf.cl,clV];done)|(dsimp only [ite00];done)|(with_reducible first|exact SubLv.refl _|refine subLv_int ?_ ?_|refine subLv_frac ?_ ?_)|(dsimp only [ite00];with_reducible exact SubLv.refl _)|fail))
      · exact sub_eq (congrArg Bo (hF (by omega)))
    · repeat' (first|(with_reducible first|refine Wp_seq ?_|refine zr0 hc ?_|refine zm0 hc ?_|refine zwk ?_|refine Wp_block ?_|refine zgo ?_|refine zbn ?_|refine zge Tryz.results54 ?_|refine Sub.refl _|refine allP_nil|refine zoa1 (out':=?_) ?_|refine zca1 (y:=?_) ?_|refine zea1 (eo':=?_) ?_)|(with_reducible refine allP_cons ?_ ?_;focus (first|decide|omega))|(with_reducible first|refine zg2 ?_ ?_|refine zbo ?_|refine zg3 ?_ (fun h=>?_) (fun h=>?_)|refine zg4 (fun h=>?_) (fun h=>?_)|fail)|(omega;done))
      · exact sub_eq (congrArg Bo (hF (by omega)))
      · refine ⟨3,⟨by omega,by omega,by omega,by omega⟩,by omega,?_⟩
        refine zwa1 (l1:=?_) (h1:=?_) ?_ ?_ <;> (repeat' (first|(with_reducible first|exact slotsOk_nil|exact boxesOk_nil|refine slotsOk_eq ?_ ?_|refine slotsOk_cons ?_ ?_ ?_|refine boxesOk_one rfl ?_ ?_ ?_|refine boxesOk_cons rfl (fun i hi=>?_) ?_ (fun i hi=>?_) ?_|refine sub_int ?_|refine sub_own_eq ?_ ?_|refine sub_gr_eq ?_ ?_|exact sub_nil_gr|exact sub_own_gr)|(first|omega|(simp only [IntKind.wrap_i64,IntKind.wrap_u64,List.length_append,List.length_singleton,List.length_cons,List.length_nil];omega))|((first|show AV.cl _ _|show clL _ _);simp [AV.cl,clL,Leaf.cl,clV];done)|(dsimp only [ite00];done)|(with_reducible first|exact SubLv.refl _|refine subLv_int ?_ ?_|refine subLv_frac ?_ ?_)|(dsimp only [ite00];with_reducible exact SubLv.refl _)|fail))
      · exact sub_eq (congrArg Bo (hF (by omega)))
    · repeat' (first|(with_reducible first|refine Wp_seq ?_|refine zr0 hc ?_|refine zm0 hc ?_|refine zwk ?_|refine Wp_block ?_|refine zgo ?_|refine zbn ?_|refine zge Tryz.results54 ?_|refine Sub.refl _|refine allP_nil|refine zoa1 (out':=?_) ?_|refine zca1 (y:=?_) ?_|refine zea1 (eo':=?_) ?_)|(with_reducible refine allP_cons ?_ ?_;focus (first|decide|omega))|(with_reducible first|refine zg2 ?_ ?_|refine zbo ?_|refine zg3 ?_ (fun h=>?_) (fun h=>?_)|refine zg4 (fun h=>?_) (fun h=>?_)|fail)|(omega;done))
      · exact sub_eq (congrArg Bo (hT (by omega)))
theorem a1v (q:Rat):-1≤q.num.sign∧q.num.sign≤1:=by
  rcases Int.lt_trichotomy q.num 0 with h|h|h
  · rw [Int.sign_eq_neg_one_of_neg h];decide
  · rw [h];decide
  · rw [Int.sign_eq_one_of_pos h];decide
theorem a4q {s:ByteArray} (h:s.size≤maxLen):s.data.toList.length≤9223372036854775807:=by
  rw [Array.length_toList];exact h
end Go.Proofs
end
section
namespace Go.Proofs
open Go.Ax
theorem fineN {f:FuncId} {l:List AV} {q:Rat} (h:Ax.Pure Tryz.prog G f l (.tup [S (bs (txl (bigQ q) q)),N (exl (bigQ q))])) (k:bigQ q=false):Ax.Pure Tryz.prog G f l (.tup [S (bs (ratL q)),N 0]):=by
  rw [k] at h;exact h
theorem chk_1 {a:Rat} (h:bigQ a=false):Ax.Pure Tryz.prog G 21 [S (bs (ratL a))] (N 0):=by
  have k:=r_Check (ratL a) (ok_len h)
  rwa [ok_chk h] at k
end Go.Proofs
end
section
set_option maxHeartbeats 8000000
set_option maxRecDepth 100000
namespace Go.Proofs
open Go.Ax
theorem a1s (x y z:Int) (hw d e g p1 p2 p3 o1 o2 o3 f1 f2 f3 m1 m2 m3 q1 q2 q3 n1 n2 n3 u1 u2 u3 v1 v2 v3 t1 t2 t3:List UInt8) (sg:Int) (hsg:-1≤sg∧sg≤1)
    (c_fh:Ax.Pure Tryz.prog G 54 [tH x y z hw,N 1000,N 6] (Bo true)) (c_fp:Ax.Pure Tryz.prog G 55 [tV p1 p2 p3,N 6] (Bo true)) (c_fo:Ax.Pure Tryz.prog G 55 [tV o1 o2 o3,N 6] (Bo true))
    (c_1:Ax.Pure Tryz.prog G 46 [tH x y z hw,tV p1 p2 p3] (.tup [tV f1 f2 f3,N 0])) (c_2:Ax.Pure Tryz.prog G 47 [tH x y z hw,tV p1 p2 p3] (.tup [S (bs d),N 0]))
    (c_3:Ax.Pure Tryz.prog G 48 [tH x y z hw,tV p1 p2 p3] (.tup [tV m1 m2 m3,N 0])) (c_4:Ax.Pure Tryz.prog G 48 [tH x y z hw,tV m1 m2 m3] (.tup [tV p1 p2 p3,N 0]))
    (c_5:Ax.Pure Tryz.prog G 46 [tH x y z hw,tV m1 m2 m3] (.tup [tV f1 f2 f3,N 0])) (c_n:Ax.Pure Tryz.prog G 56 [tH x y z hw] (tV n1 n2 n3))
    (c_6:Ax.Pure Tryz.prog G 45 [tH x y z hw,tV p1 p2 p3,tV n1 n2 n3] (.tup [tV f1 f2 f3,N 0])) (c_7:Ax.Pure Tryz.prog G 46 [tH x y z hw,tV o1 o2 o3] (.tup [tV q1 q2 q3,N 0]))
    (c_kf:Ax.Pure Tryz.prog G 39 [tV f1 f2 f3] (N 0)) (c_km:Ax.Pure Tryz.prog G 39 [tV m1 m2 m3] (N 0)) (c_kq:Ax.Pure Tryz.prog G 39 [tV q1 q2 q3] (N 0)) (c_kd:Ax.Pure Tryz.prog G 21 [S (bs d)] (N 0))
    (c_8:Ax.Pure Tryz.prog G 42 [tH x y z hw,tV f1 f2 f3] (.tup [N 0,N 0])) (c_9:Ax.Pure Tryz.prog G 42 [tH x y z hw,tV p1 p2 p3] (.tup [N sg,N 0])) (c_10:Ax.Pure Tryz.prog G 42 [tH x y z hw,tV m1 m2 m3] (.tup [N (-sg),N 0]))
    (r_1:Ax.Pure Tryz.prog G 58 [tV q1 q2 q3,tV p1 p2 p3] (tV u1 u2 u3)) (r_2:Ax.Pure Tryz.prog G 57 [tV u1 u2 u3] (S (bs g)))
    (r_3:Ax.Pure Tryz.prog G 58 [tV q1 q2 q3,tV f1 f2 f3] (tV v1 v2 v3)) (r_4:Ax.Pure Tryz.prog G 57 [tV v1 v2 v3] (S (bs e)))
    (r_5:Ax.Pure Tryz.prog G 59 [S (bs d),S (bs e)] (S (bs g))) (r_6:Ax.Pure Tryz.prog G 58 [tV f1 f2 f3,tV p1 p2 p3] (tV t1 t2 t3)) (r_7:Ax.Pure Tryz.prog G 57 [tV t1 t2 t3] (S (bs d))) :
    Ax.Pure Tryz.prog G 7 [tH x y z hw,tV p1 p2 p3,tV o1 o2 o3] (Bo true):=by
  have c_aw:=c_awake
  have hsw:IntKind.i64.wrap (0 - -sg)=0 - -sg:=w64 (by omega) (by omega)
  refine zen Tryz.func7 rfl Tryz.ntmps7 ?_
  intro w0 E0 hc
  repeat' (first|(with_reducible first|refine Wp_seq ?_|refine zr0 hc ?_|refine zm0 hc ?_|refine zwk ?_|refine Wp_block ?_|refine zgo ?_|refine zbn ?_|refine zge Tryz.results7 ?_|refine Sub.refl _|refine allP_nil|refine zoa1 (out':=?_) ?_|refine zca1 (y:=?_) ?_|refine zea1 (eo':=?_) ?_)|(with_reducible refine allP_cons ?_ ?_;focus (first|decide|omega))|(with_reducible first|refine zg2 ?_ ?_|refine zoc c_aw ?_ ?_|refine zoc c_fh ?_ ?_|refine zoc c_fp ?_ ?_|refine zoc c_fo ?_ ?_|refine zoc c_1 ?_ ?_|refine zoc c_2 ?_ ?_|refine zoc c_3 ?_ ?_|refine zoc c_4 ?_ ?_|refine zoc c_5 ?_ ?_|refine zoc c_n ?_ ?_|refine zoc c_6 ?_ ?_|refine zoc c_7 ?_ ?_|refine zoc c_kf ?_ ?_|refine zoc c_km ?_ ?_|refine zoc c_kq ?_ ?_|refine zoc c_kd ?_ ?_|refine zoc c_8 ?_ ?_|refine zoc c_9 ?_ ?_|refine zoc c_10 ?_ ?_|refine zoc r_1 ?_ ?_|refine zoc r_2 ?_ ?_|refine zoc r_3 ?_ ?_|refine zoc r_4 ?_ ?_|refine zoc r_5 ?_ ?_|refine zoc r_6 ?_ ?_|refine zoc r_7 ?_ ?_|refine zbo ?_|refine zg3 ?_ (fun h=>?_) (fun h=>?_)|refine zg4 (fun h=>?_) (fun h=>?_)|fail)|((first|omega|(refine absurd ?_ h;decide)|(exfalso;simp [beq_bs] at h;done)|fail);done))
  all_goals exact sub_eq (congrArg Bo (by simp [beq_bs]))
theorem nr_t {x y z p1 p2 p3 w t:Rat} (h:t*dot3 x y z x y z=dot3 x y z p1 p2 p3 - w):dot3 x y z (p1 - t*x) (p2 - t*y) (p3 - t*z)=w:=by
  unfold dot3 at *;grind
theorem nr_m {x y z p1 p2 p3 w t:Rat} (h:t*dot3 x y z x y z=dot3 x y z p1 p2 p3 - w):dot3 x y z (2*(p1 - t*x) - p1) (2*(p2 - t*y) - p2) (2*(p3 - t*z) - p3) - w= -(t*dot3 x y z x y z):=by
  unfold dot3 at *;grind
theorem a1t {v n t:Rat} (h:v= -(t*n)) (h0:n≠0):v / n= -t:=by subst h;grind
theorem nr_b (p t x:Rat):2*(2*(p - t*x) - p - -t*x) - (2*(p - t*x) - p)=p:=by grind
theorem nr_s (p t x:Rat):2*(p - t*x) - p - -t*x=p - t*x:=by grind
theorem nr_w (p t x:Rat):p - t*x - p= -t*x:=by grind
theorem a1u {x y z p1 p2 p3 q1 q2 q3 w t:Rat} (h:t*dot3 x y z x y z=dot3 x y z p1 p2 p3 - w) (hq:dot3 x y z q1 q2 q3=w) :
    dot3 (q1 - p1) (q2 - p2) (q3 - p3) (q1 - p1) (q2 - p2) (q3 - p3)=t*(t*dot3 x y z x y z)+dot3 (q1 - (p1 - t*x)) (q2 - (p2 - t*y)) (q3 - (p3 - t*z)) (q1 - (p1 - t*x)) (q2 - (p2 - t*y)) (q3 - (p3 - t*z)):=by
  have e:dot3 (q1 - p1) (q2 - p2) (q3 - p3) (q1 - p1) (q2 - p2) (q3 - p3) - dot3 (q1 - (p1 - t*x)) (q2 - (p2 - t*y)) (q3 - (p3 - t*z)) (q1 - (p1 - t*x)) (q2 - (p2 - t*y)) (q3 - (p3 - t*z))= -2*t*(dot3 x y z q1 q2 q3 - dot3 x y z p1 p2 p3) - t*(t*dot3 x y z x y z):=by unfold dot3;grind
  rw [hq] at e
  have e2:-2*t*(w - dot3 x y z p1 p2 p3)=2*(t*(t*dot3 x y z x y z)):=by rw [h];grind
  rw [e2] at e
  grind
theorem nr_sq (x y z t:Rat):dot3 (-t*x) (-t*y) (-t*z) (-t*x) (-t*y) (-t*z)=t*(t*dot3 x y z x y z):=by unfold dot3;grind
theorem a1q (x y z:Int) (w p1 p2 p3 o1 o2 o3:Rat) (hh:okH x y z w) (op:okV p1 p2 p3) (oo:okV o1 o2 o3) (qx:Q 24 (x:Rat)) (qy:Q 24 (y:Rat)) (qz:Q 24 (z:Rat)) (qw:Q 24 w) (qp:Q 24 p1∧Q 24 p2∧Q 24 p3) (qo:Q 24 o1∧Q 24 o2∧Q 24 o3)
    (c_fh:Ax.Pure Tryz.prog G 54 [tH x y z (ratL w),N 1000,N 6] (Bo true)) (c_fp:Ax.Pure Tryz.prog G 55 [tV (ratL p1) (ratL p2) (ratL p3),N 6] (Bo true)) (c_fo:Ax.Pure Tryz.prog G 55 [tV (ratL o1) (ratL o2) (ratL o3),N 6] (Bo true)) :
    Ax.Pure Tryz.prog G 7 [tH x y z (ratL w),tV (ratL p1) (ratL p2) (ratL p3),tV (ratL o1) (ratL o2) (ratL o3)] (Bo true):=by
  have hn:dot3 (x:Rat) (y:Rat) (z:Rat) (x:Rat) (y:Rat) (z:Rat)≠0:=dot_pos (okH_ne hh)
  have qt:∀{a b c:Rat},Q 24 a∧Q 24 b∧Q 24 c→Q 400 ((dot3 (x:Rat) (y:Rat) (z:Rat) a b c - w) / dot3 (x:Rat) (y:Rat) (z:Rat) (x:Rat) (y:Rat) (z:Rat)):=fun q=>Q_of (Q_div (Q_sub (Q_dot qx qy qz q.1 q.2.1 q.2.2) qw) (Q_dot qx qy qz qx qy qz)) rfl
  have c_1:=a3z x y z w hh p1 p2 p3 op
  have c_2:=a4e x y z w hh p1 p2 p3 op
  have c_3:=s_Mirror x y z w hh p1 p2 p3 op
  have c_7:=a3z x y z w hh o1 o2 o3 oo
  rw [prj p1,prj p2,prj p3] at c_1
  rw [mir p1,mir p2,mir p3] at c_3
  rw [prj o1,prj o2,prj o3] at c_7
  rw [dst _ _ _ _ hn] at c_2
  have c_6:=s_Meet x y z w hh p1 p2 p3 (x:Rat) (y:Rat) (z:Rat) op (a39 (Q_of qx rfl) (Q_of qy rfl) (Q_of qz rfl)) hn
  rw [Rat.mul_comm (x:Rat),Rat.mul_comm (y:Rat),Rat.mul_comm (z:Rat)] at c_6
  have qt1:=qt qp
  have qt2:=qt qo
  obtain ⟨t,ht⟩:∃t,t=(dot3 (x:Rat) (y:Rat) (z:Rat) p1 p2 p3 - w) / dot3 (x:Rat) (y:Rat) (z:Rat) (x:Rat) (y:Rat) (z:Rat):=⟨_,rfl⟩
  obtain ⟨r,hr⟩:∃r,r=(dot3 (x:Rat) (y:Rat) (z:Rat) o1 o2 o3 - w) / dot3 (x:Rat) (y:Rat) (z:Rat) (x:Rat) (y:Rat) (z:Rat):=⟨_,rfl⟩
  have htn:t*dot3 (x:Rat) (y:Rat) (z:Rat) (x:Rat) (y:Rat) (z:Rat)=dot3 (x:Rat) (y:Rat) (z:Rat) p1 p2 p3 - w:=by rw [ht];exact Rat.div_mul_cancel hn
  have hrn:r*dot3 (x:Rat) (y:Rat) (z:Rat) (x:Rat) (y:Rat) (z:Rat)=dot3 (x:Rat) (y:Rat) (z:Rat) o1 o2 o3 - w:=by rw [hr];exact Rat.div_mul_cancel hn
  have hvv:(dot3 (x:Rat) (y:Rat) (z:Rat) p1 p2 p3 - w)*(dot3 (x:Rat) (y:Rat) (z:Rat) p1 p2 p3 - w) / dot3 (x:Rat) (y:Rat) (z:Rat) (x:Rat) (y:Rat) (z:Rat)=t*(t*dot3 (x:Rat) (y:Rat) (z:Rat) (x:Rat) (y:Rat) (z:Rat)):=by
    rw [←htn];generalize dot3 (x:Rat) (y:Rat) (z:Rat) (x:Rat) (y:Rat) (z:Rat)=n at *;grind
  rw [hvv] at c_2
  rw [←ht] at c_1 c_3 c_6 qt1
  rw [←hr] at c_7 qt2
  have qf1:=Q_sub qp.1 (Q_mul qt1 qx)
  have qf2:=Q_sub qp.2.1 (Q_mul qt1 qy)
  have qf3:=Q_sub qp.2.2 (Q_mul qt1 qz)
  have q2:Q 64 (2:Rat):=Q_i64 (z:=2) (by decide) (by decide)
  have qm1:=Q_sub (Q_mul q2 qf1) qp.1
  have qm2:=Q_sub (Q_mul q2 qf2) qp.2.1
  have qm3:=Q_sub (Q_mul q2 qf3) qp.2.2
  have qg1:=Q_sub qo.1 (Q_mul qt2 qx)
  have qg2:=Q_sub qo.2.1 (Q_mul qt2 qy)
  have qg3:=Q_sub qo.2.2 (Q_mul qt2 qz)
  have qd:=Q_mul qt1 (Q_mul qt1 (Q_dot qx qy qz qx qy qz))
  have of:=a39 (Q_of qf1 rfl) (Q_of qf2 rfl) (Q_of qf3 rfl)
  have om:=a39 (Q_of qm1 rfl) (Q_of qm2 rfl) (Q_of qm3 rfl)
  have og:=a39 (Q_of qg1 rfl) (Q_of qg2 rfl) (Q_of qg3 rfl)
  have od:=a32 (Q_of qd rfl)
  have c_4:=s_Mirror x y z w hh _ _ _ om
  have c_5:=a3z x y z w hh _ _ _ om
  rw [mir (2*_ - _),mir (2*_ - _),mir (2*_ - _),a1t (nr_m htn) hn,nr_b,nr_b,nr_b] at c_4
  rw [prj (2*_ - _),prj (2*_ - _),prj (2*_ - _),a1t (nr_m htn) hn,nr_s,nr_s,nr_s] at c_5
  have c_8:=s_Side x y z w hh _ _ _ of
  rw [nr_t htn,show w - w=0 by grind] at c_8
  have c_9:=s_Side x y z w hh p1 p2 p3 op
  have c_10:=s_Side x y z w hh _ _ _ om
  rw [nr_m htn,htn,Rat.neg_num,Int.sign_neg] at c_10
  have r_1:=a2z (k:=2000) (by decide) _ _ _ p1 p2 p3 ⟨Q_of qg1 rfl,Q_of qg2 rfl,Q_of qg3 rfl⟩ ⟨Q_of qp.1 rfl,Q_of qp.2.1 rfl,Q_of qp.2.2 rfl⟩
  have r_3:=a2z (k:=2000) (by decide) _ _ _ _ _ _ ⟨Q_of qg1 rfl,Q_of qg2 rfl,Q_of qg3 rfl⟩ ⟨Q_of qf1 rfl,Q_of qf2 rfl,Q_of qf3 rfl⟩
  have r_6:=a2z (k:=2000) (by decide) _ _ _ p1 p2 p3 ⟨Q_of qf1 rfl,Q_of qf2 rfl,Q_of qf3 rfl⟩ ⟨Q_of qp.1 rfl,Q_of qp.2.1 rfl,Q_of qp.2.2 rfl⟩
  have qu1:=Q_sub qg1 qp.1
  have qu2:=Q_sub qg2 qp.2.1
  have qu3:=Q_sub qg3 qp.2.2
  have qv1:=Q_sub qg1 qf1
  have qv2:=Q_sub qg2 qf2
  have qv3:=Q_sub qg3 qf3
  have qw1:=Q_sub qf1 qp.1
  have qw2:=Q_sub qf2 qp.2.1
  have qw3:=Q_sub qf3 qp.2.2
  have r_2:=a2k (k:=4000) (by decide) _ _ _ ⟨Q_of qu1 rfl,Q_of qu2 rfl,Q_of qu3 rfl⟩
  have r_4:=a2k (k:=4000) (by decide) _ _ _ ⟨Q_of qv1 rfl,Q_of qv2 rfl,Q_of qv3 rfl⟩
  have r_7:=a2k (k:=4000) (by decide) _ _ _ ⟨Q_of qw1 rfl,Q_of qw2 rfl,Q_of qw3 rfl⟩
  have r_5:=r_AddQ _ _ (Q_of (K:=100000) qd rfl) (Q_of (Q_dot qv1 qv2 qv3 qv1 qv2 qv3) rfl) (by decide)
  rw [←a1u htn (nr_t hrn)] at r_5
  rw [nr_w,nr_w,nr_w] at r_6 r_7
  rw [nr_sq] at r_7
  exact a1s x y z _ _ _ _ _ _ _ _ _ _ _ _ _ _ _ _ _ _ _ _ _ _ _ _ _ _ _ _ _ _ _ _ (a1v _) c_fh c_fp c_fo (a33 c_1 of) (fineN c_2 od) (a33 c_3 om) (a33 c_4 op) (a33 c_5 of) (a18 x y z _ (okI_i64 hh.1.1) (okI_i64 hh.1.2.1) (okI_i64 hh.1.2.2)) (a33 c_6 of) (a33 c_7 og)
    (a38 of) (a38 om) (a38 og) (chk_1 od) c_8 c_9 c_10 r_1 r_2 r_3 r_4 r_5 r_6 r_7
theorem a4k (h:H4) (p o:V3) (hi:i64 h.x∧i64 h.y∧i64 h.z) (hd:h.d.length≤9223372036854775807):Ax.Pure Tryz.prog G 7 [txH h,txV p,txV o] (Bo true):=by
  obtain ⟨x,y,z,d⟩:=h
  have c_aw:=c_awake
  obtain ⟨b1,c_fh,g1⟩:=a1r x y z d 1000 6 (by decide) (by decide) hd
  obtain ⟨b2,c_fp,g2⟩:=a2f p 6 (by decide)
  obtain ⟨b3,c_fo,g3⟩:=a2f o 6 (by decide)
  cases b1
  · clear g1 g2 g3
    refine zen Tryz.func7 rfl Tryz.ntmps7 ?_
    intro w0 E0 hc
    repeat' (first|(with_reducible first|refine Wp_seq ?_|refine zr0 hc ?_|refine zm0 hc ?_|refine zwk ?_|refine Wp_block ?_|refine zgo ?_|refine zbn ?_|refine zge Tryz.results7 ?_|refine Sub.refl _|refine allP_nil|refine zoa1 (out':=?_) ?_|refine zca1 (y:=?_) ?_|refine zea1 (eo':=?_) ?_)|(with_reducible refine allP_cons ?_ ?_;focus (first|decide|omega))|(with_reducible first|refine zg2 ?_ ?_|refine zoc c_aw ?_ ?_|refine zoc c_fh ?_ ?_|refine zbo ?_|refine zg3 ?_ (fun h=>?_) (fun h=>?_)|refine zg4 (fun h=>?_) (fun h=>?_)|fail)|((first|omega|(refine nf1 ?_;with_reducible assumption)|(refine nf2 ?_;with_reducible assumption));done))
  cases b2
  · clear g1 g2 g3
    refine zen Tryz.func7 rfl Tryz.ntmps7 ?_
    intro w0 E0 hc
    repeat' (first|(with_reducible first|refine Wp_seq ?_|refine zr0 hc ?_|refine zm0 hc ?_|refine zwk ?_|refine Wp_block ?_|refine zgo ?_|refine zbn ?_|refine zge Tryz.results7 ?_|refine Sub.refl _|refine allP_nil|refine zoa1 (out':=?_) ?_|refine zca1 (y:=?_) ?_|refine zea1 (eo':=?_) ?_)|(with_reducible refine allP_cons ?_ ?_;focus (first|decide|omega))|(with_reducible first|refine zg2 ?_ ?_|refine zoc c_aw ?_ ?_|refine zoc c_fh ?_ ?_|refine zoc c_fp ?_ ?_|refine zbo ?_|refine zg3 ?_ (fun h=>?_) (fun h=>?_)|refine zg4 (fun h=>?_) (fun h=>?_)|fail)|((first|omega|(refine nf1 ?_;with_reducible assumption)|(refine nf2 ?_;with_reducible assumption));done))
  cases b3
  · clear g1 g2 g3
    refine zen Tryz.func7 rfl Tryz.ntmps7 ?_
    intro w0 E0 hc
    repeat' (first|(with_reducible first|refine Wp_seq ?_|refine zr0 hc ?_|refine zm0 hc ?_|refine zwk ?_|refine Wp_block ?_|refine zgo ?_|refine zbn ?_|refine zge Tryz.results7 ?_|refine Sub.refl _|refine allP_nil|refine zoa1 (out':=?_) ?_|refine zca1 (y:=?_) ?_|refine zea1 (eo':=?_) ?_)|(with_reducible refine allP_cons ?_ ?_;focus (first|decide|omega))|(with_reducible first|refine zg2 ?_ ?_|refine zoc c_aw ?_ ?_|refine zoc c_fh ?_ ?_|refine zoc c_fp ?_ ?_|refine zoc c_fo ?_ ?_|refine zbo ?_|refine zg3 ?_ (fun h=>?_) (fun h=>?_)|refine zg4 (fun h=>?_) (fun h=>?_)|fail)|((first|omega|(refine nf1 ?_;with_reducible assumption)|(refine nf2 ?_;with_reducible assumption));done))
  obtain ⟨w,rfl,hh,qw,bx,by',bz⟩:=g1 rfl
  obtain ⟨p1,p2,p3,rfl,op,qp⟩:=g2 rfl
  obtain ⟨o1,o2,o3,rfl,oo,qo⟩:=g3 rfl
  exact a1q x y z w p1 p2 p3 o1 o2 o3 hh op oo (Q_of (Q_le (k:=9) bx rfl) rfl) (Q_of (Q_le (k:=9) by' rfl) rfl) (Q_of (Q_le (k:=9) bz rfl) rfl) qw qp qo c_fh c_fp c_fo
end Go.Proofs
end
