/- Further lemmas on the program, part Rounds4. -/
import Derived.Test.YtalgbhjnbgkneaaGreatDoorXRounds2
set_option linter.unusedVariables false
set_option linter.unusedSimpArgs false
section
set_option maxHeartbeats 4000000
set_option maxRecDepth 100000
namespace Go.Proofs
open Go.Ax
section
variable (c_aw:Ax.Pure Tryz.prog G 17 [] (Bo true)) (a b c p D T K W M:Nat) (ha:a < 256) (hb:b < 256) (hc':c < 256) (hp:p < 256) (hD:D=1+a%100) (hT:T=1+b%40) (hK:K=c%10) (hW:W=1+p%D) (hM:M=1+p%6)
include c_aw ha hb hc' hp hD hT hK hW hM
theorem rnd_c (s x y z e m:Nat) (c_1:Ax.Pure Tryz.prog G 50 [N D,N W] (.tup [N s,N e])) (c_2:Ax.Pure Tryz.prog G 51 [N D] (.tup [N x,N y,N z]))
    (hP:e=0∧z=0∧1≤x∧x≤D∧1≤y∧y≤D∧¬IntKind.i64.wrap ((D:Int)*D) < IntKind.i64.wrap (IntKind.i64.wrap ((x:Int)*x)+IntKind.i64.wrap ((y:Int)*y))∧¬IntKind.i64.wrap (IntKind.i64.wrap ((x:Int)*y)*y) < IntKind.i64.wrap (IntKind.i64.wrap ((W:Int)*s)*s))
    (c_3:e=0→Ax.Pure Tryz.prog G 49 [N W,N s,N D] (.tup [Bo true,N 0])) (c_4:e=0→Ax.Pure Tryz.prog G 49 [N W,N (IntKind.i64.wrap ((s:Int)+1)),N D] (.tup [Bo false,N 0]))
    (l q:List Int) (c_5:Ax.Pure Tryz.prog G 38 [N D,N T,N K,N M] (.tup [L64 l,N 0])) (c_6:Ax.Pure Tryz.prog G 39 [N D,N T,N K] (.tup [N m,N 0])) (c_7:Ax.Pure Tryz.prog G 38 [N D,N T,N K,N m] (.tup [L64 q,N 0])) (hm:1≤m∧m≤64) (hl:l.length=M) (hq:q.length=m)
    (hlb:∀x∈l,0≤x∧x≤1000000000) (hqb:∀x∈q,0≤x∧x≤1000000000) (hw:∀i:Nat,i < M→l.getD i 0=wid D T K M i∧1≤wid D T K M i) (hs:l.sum < q.sum∨(l.sum=q.sum∧m≤M)):Ax.Pure Tryz.prog G 11 [u4 a b c p] (Bo true):=by
  have F0:IntKind.i64.wrap (0+0)=0:=rfl
  have e1:IntKind.i64.wrap (1+(IntKind.i64.wrap (a:Int)).tmod 100)=D:=by
    rw [w64 (x:=a) (by omega) (by omega),Int.tmod_eq_emod_of_nonneg (by omega),w64 (by omega) (by omega)];omega
  have e2:IntKind.i64.wrap (1+(IntKind.i64.wrap (b:Int)).tmod 40)=T:=by
    rw [w64 (x:=b) (by omega) (by omega),Int.tmod_eq_emod_of_nonneg (by omega),w64 (by omega) (by omega)];omega
  have e3:(IntKind.i64.wrap (c:Int)).tmod 10=K:=by
    rw [w64 (x:=c) (by omega) (by omega),Int.tmod_eq_emod_of_nonneg (by omega)];omega
  have e4:IntKind.i64.wrap (p:Int)=p:=w64 (by omega) (by omega)
  have m5:=Nat.mod_lt p (show D > 0 by omega)
  have e5:IntKind.i64.wrap (1+(p:Int).tmod D)=W:=by
    rw [Int.tmod_eq_emod_of_nonneg (by omega),w64 (by omega) (by omega)];omega
  refine zen Tryz.func11 rfl Tryz.ntmps11 ?_
  intro w0 E0 hc
  repeat' (first|(with_reducible first|refine Wp_seq ?_|refine zwk ?_|refine Wp_block ?_|refine zgo ?_|refine zbn ?_|refine zge Tryz.results11 ?_|refine Sub.refl _|refine allP_nil|refine zoa1 (out':=?_) ?_|refine zca1 (y:=?_) ?_|refine zea1 (eo':=?_) ?_)|(with_reducible refine zrs [2] hc ?_ ?_;focus (with_unfolding_all rfl))|(with_reducible refine zrm [2] hc mixed ?_ ?_;focus (with_unfolding_all rfl))|(with_reducible refine allP_cons ?_ ?_;focus (first|decide|omega))|(with_reducible first|refine zg2 ?_ ?_|refine zbo ?_|refine zg3 ?_ (fun h=>?_) (fun h=>?_)|refine zg4 (fun h=>?_) (fun h=>?_)|fail)|((first|omega|contradiction);done))
  rw [e1,e2,e3]
  repeat' (first|(with_reducible first|refine Wp_seq ?_|refine zwk ?_|refine Wp_block ?_|refine zgo ?_|refine zbn ?_|refine zge Tryz.results11 ?_|refine Sub.refl _|refine allP_nil|refine zoa1 (out':=?_) ?_|refine zca1 (y:=?_) ?_|refine zea1 (eo':=?_) ?_)|(with_reducible refine zrs [3] hc ?_ ?_;focus (with_unfolding_all rfl))|(with_reducible refine zrm [3] hc mixed ?_ ?_;focus (with_unfolding_all rfl))|(with_reducible refine allP_cons ?_ ?_;focus (first|decide|omega))|(with_reducible first|refine zg2 ?_ ?_|refine zbo ?_|refine zg3 ?_ (fun h=>?_) (fun h=>?_)|refine zg4 (fun h=>?_) (fun h=>?_)|fail)|((first|omega|contradiction);done))
  rw [e4]
  repeat' (first|(with_reducible first|refine Wp_seq ?_|refine zwk ?_|refine Wp_block ?_|refine zgo ?_|refine zbn ?_|refine zge Tryz.results11 ?_|refine Sub.refl _|refine allP_nil|refine zoa1 (out':=?_) ?_|refine zca1 (y:=?_) ?_|refine zea1 (eo':=?_) ?_)|(with_reducible refine zrs [4] hc ?_ ?_;focus (with_unfolding_all rfl))|(with_reducible refine zrm [4] hc mixed ?_ ?_;focus (with_unfolding_all rfl))|(with_reducible refine allP_cons ?_ ?_;focus (first|decide|omega))|(with_reducible first|refine zg2 ?_ ?_|refine zbo ?_|refine zg3 ?_ (fun h=>?_) (fun h=>?_)|refine zg4 (fun h=>?_) (fun h=>?_)|fail)|((first|omega|contradiction);done))
  · exact ⟨by omega,rfl⟩
  rw [e5]
  refine Wp_weaker (st':=stOf [(3,N D),(4,N T),(5,N K),(6,N p),(7,N W)] [] 1) ?_ ?_
  · refine zwa1 (l1:=?_) (h1:=?_) ?_ ?_ <;> (repeat' (first|(with_reducible first|exact slotsOk_nil|exact boxesOk_nil|refine slotsOk_eq ?_ ?_|refine slotsOk_cons ?_ ?_ ?_|refine boxesOk_one rfl ?_ ?_ ?_|refine boxesOk_cons rfl (fun i hi=>?_) ?_ (fun i hi=>?_) ?_|refine sub_int ?_|refine sub_own_eq ?_ ?_|refine sub_gr_eq ?_ ?_|exact sub_nil_gr|exact sub_own_gr)|(first|omega|(simp only [IntKind.wrap_i64,IntKind.wrap_u64,List.length_append,List.length_singleton,List.length_cons,List.length_nil];omega))|((first|show AV.cl _ _|show clL _ _);simp [AV.cl,clL,Leaf.cl,clV];done)|(dsimp only [ite00];done)|(with_reducible first|exact SubLv.refl _|refine subLv_int ?_ ?_|refine subLv_frac ?_ ?_)|(dsimp only [ite00];with_reducible exact SubLv.refl _)|fail))
  have e6:IntKind.i64.wrap (1+(p:Int).tmod 6)=M:=by
    rw [Int.tmod_eq_emod_of_nonneg (by omega),w64 (by omega) (by omega)];omega
  clear e1 e2 e3 e4 e5 m5
  repeat' (first|(with_reducible first|refine Wp_seq ?_|refine zwk ?_|refine Wp_block ?_|refine zgo ?_|refine zbn ?_|refine zge Tryz.results11 ?_|refine Sub.refl _|refine allP_nil|refine zoa1 (out':=?_) ?_|refine zca1 (y:=?_) ?_|refine zea1 (eo':=?_) ?_)|(with_reducible refine zrs [15] hc ?_ ?_;focus (with_unfolding_all rfl))|(with_reducible refine zrm [15] hc mixed ?_ ?_;focus (with_unfolding_all rfl))|(with_reducible refine allP_cons ?_ ?_;focus (first|decide|omega))|(with_reducible first|refine zg2 ?_ ?_|refine zoc c_aw ?_ ?_|refine zoc c_1 ?_ ?_|refine zoc c_2 ?_ ?_|refine zoc (c_3 ?_) ?_ ?_|refine zoc (c_4 ?_) ?_ ?_|refine zbo ?_|refine zg3 ?_ (fun h=>?_) (fun h=>?_)|refine zg4 (fun h=>?_) (fun h=>?_)|fail)|((first|omega|contradiction);done))
  all_goals
    refine Wp_weaker (st':=stOf [(3,N D),(4,N T),(5,N K),(6,N p)] [] 1) ?_ ?_
    · refine zwa1 (l1:=?_) (h1:=?_) ?_ ?_ <;> (repeat' (first|(with_reducible first|exact slotsOk_nil|exact boxesOk_nil|refine slotsOk_eq ?_ ?_|refine slotsOk_cons ?_ ?_ ?_|refine boxesOk_one rfl ?_ ?_ ?_|refine boxesOk_cons rfl (fun i hi=>?_) ?_ (fun i hi=>?_) ?_|refine sub_int ?_|refine sub_own_eq ?_ ?_|refine sub_gr_eq ?_ ?_|exact sub_nil_gr|exact sub_own_gr)|(first|omega|(simp only [IntKind.wrap_i64,IntKind.wrap_u64,List.length_append,List.length_singleton,List.length_cons,List.length_nil];omega))|((first|show AV.cl _ _|show clL _ _);simp [AV.cl,clL,Leaf.cl,clV];done)|(dsimp only [ite00];done)|(with_reducible first|exact SubLv.refl _|refine subLv_int ?_ ?_|refine subLv_frac ?_ ?_)|(dsimp only [ite00];with_reducible exact SubLv.refl _)|fail))
    repeat' (first|(with_reducible first|refine Wp_seq ?_|refine zwk ?_|refine Wp_block ?_|refine zgo ?_|refine zbn ?_|refine zge Tryz.results11 ?_|refine Sub.refl _|refine allP_nil|refine zoa1 (out':=?_) ?_|refine zca1 (y:=?_) ?_|refine zea1 (eo':=?_) ?_)|(with_reducible refine zrs [16] hc ?_ ?_;focus (with_unfolding_all rfl))|(with_reducible refine zrm [16] hc mixed ?_ ?_;focus (with_unfolding_all rfl))|(with_reducible refine allP_cons ?_ ?_;focus (first|decide|omega))|(with_reducible first|refine zg2 ?_ ?_|refine zbo ?_|refine zg3 ?_ (fun h=>?_) (fun h=>?_)|refine zg4 (fun h=>?_) (fun h=>?_)|fail)|((first|omega|contradiction);done))
    rw [e6]
    repeat' (first|(with_reducible first|refine Wp_seq ?_|refine zr0 hc ?_|refine zm0 hc ?_|refine zwk ?_|refine Wp_block ?_|refine zgo ?_|refine zbn ?_|refine zge Tryz.results11 ?_|refine Sub.refl _|refine allP_nil|refine zoa1 (out':=?_) ?_|refine zca1 (y:=?_) ?_|refine zea1 (eo':=?_) ?_)|(with_reducible refine allP_cons ?_ ?_;focus (first|decide|omega))|(with_reducible first|refine zg2 ?_ ?_|refine zoc c_5 ?_ ?_|refine zoc c_6 ?_ ?_|refine zoc c_7 ?_ ?_|refine zbo ?_|refine zg3 ?_ (fun h=>?_) (fun h=>?_)|refine zg4 (fun h=>?_) (fun h=>?_)|fail)|((first|omega|contradiction);done))
    refine Wp_loopI (α:=Nat) (fun i=>stOf [(3,N D),(4,N T),(5,N K),(17,N M),(18,L64 l),(20,N m),(22,L64 q),(24,N 0),(25,N (q.take i).sum),(26,N i)] [] 1) (fun i=>i≤q.length) (fun i=>q.length - i) 0 (Nat.zero_le _) ?_ ?_
    · refine zwa1 (l1:=?_) (h1:=?_) ?_ ?_ <;> (repeat' (first|(with_reducible first|exact slotsOk_nil|exact boxesOk_nil|refine slotsOk_eq ?_ ?_|refine slotsOk_cons ?_ ?_ ?_|refine boxesOk_one rfl ?_ ?_ ?_|refine boxesOk_cons rfl (fun i hi=>?_) ?_ (fun i hi=>?_) ?_|refine sub_int ?_|refine sub_own_eq ?_ ?_|refine sub_gr_eq ?_ ?_|exact sub_nil_gr|exact sub_own_gr)|(first|omega|(simp only [IntKind.wrap_i64,IntKind.wrap_u64,List.length_append,List.length_singleton,List.length_cons,List.length_nil];omega))|((first|show AV.cl _ _|show clL _ _);simp [AV.cl,clL,Leaf.cl,clV];done)|(dsimp only [ite00];done)|(with_reducible first|exact SubLv.refl _|refine subLv_int ?_ ?_|refine subLv_frac ?_ ?_)|(dsimp only [ite00];with_reducible exact SubLv.refl _)|fail))
      all_goals rfl
    · intro i g1
      have t1:=take_bd hqb i g1
      have t2:=fun h=>take_sum (l:=q) (i:=i) h
      have t3:=fun (h:i < q.length)=>hqb _ (getD_mem h)
      repeat' (first|(with_reducible first|refine Wp_seq ?_|refine zr0 hc ?_|refine zm0 hc ?_|refine zwk ?_|refine Wp_block ?_|refine zgo ?_|refine zbn ?_|refine zge Tryz.results11 ?_|refine Sub.refl _|refine allP_nil|refine zoa1 (out':=?_) ?_|refine zca1 (y:=?_) ?_|refine zea1 (eo':=?_) ?_)|(with_reducible refine allP_cons ?_ ?_;focus (first|decide|omega))|(with_reducible first|refine zg2 ?_ ?_|refine zbo ?_|refine zg3 ?_ (fun h=>?_) (fun h=>?_)|refine zg4 (fun h=>?_) (fun h=>?_)|fail)|((first|omega|contradiction);done))
      · refine ⟨i+1,by omega,by omega,?_⟩
        have g3:=t2 (by omega)
        have g5:=t3 (by omega)
        refine zwa1 (l1:=?_) (h1:=?_) ?_ ?_ <;> (repeat' (first|(with_reducible first|exact slotsOk_nil|exact boxesOk_nil|refine slotsOk_eq ?_ ?_|refine slotsOk_cons ?_ ?_ ?_|refine boxesOk_one rfl ?_ ?_ ?_|refine boxesOk_cons rfl (fun i hi=>?_) ?_ (fun i hi=>?_) ?_|refine sub_int ?_|refine sub_own_eq ?_ ?_|refine sub_gr_eq ?_ ?_|exact sub_nil_gr|exact sub_own_gr)|(first|omega|(simp only [IntKind.wrap_i64,IntKind.wrap_u64,List.length_append,List.length_singleton,List.length_cons,List.length_nil];omega))|((first|show AV.cl _ _|show clL _ _);simp [AV.cl,clL,Leaf.cl,clV];done)|(dsimp only [ite00];done)|(with_reducible first|exact SubLv.refl _|refine subLv_int ?_ ?_|refine subLv_frac ?_ ?_)|(dsimp only [ite00];with_reducible exact SubLv.refl _)|fail))
      · have ei:i=q.length:=by omega
        subst ei
        rw [List.take_length]
        clear t1 t2 t3 g1
        refine Wp_loopI (α:=Nat) (fun i=>stOf [(3,N D),(4,N T),(5,N K),(17,N M),(18,L64 l),(20,N m),(24,N (l.take i).sum),(25,N q.sum),(27,N i)] [] 1) (fun i=>i≤M) (fun i=>M - i) 0 (Nat.zero_le _) ?_ ?_
        · refine zwa1 (l1:=?_) (h1:=?_) ?_ ?_ <;> (repeat' (first|(with_reducible first|exact slotsOk_nil|exact boxesOk_nil|refine slotsOk_eq ?_ ?_|refine slotsOk_cons ?_ ?_ ?_|refine boxesOk_one rfl ?_ ?_ ?_|refine boxesOk_cons rfl (fun i hi=>?_) ?_ (fun i hi=>?_) ?_|refine sub_int ?_|refine sub_own_eq ?_ ?_|refine sub_gr_eq ?_ ?_|exact sub_nil_gr|exact sub_own_gr)|(first|omega|(simp only [IntKind.wrap_i64,IntKind.wrap_u64,List.length_append,List.length_singleton,List.length_cons,List.length_nil];omega))|((first|show AV.cl _ _|show clL _ _);simp [AV.cl,clL,Leaf.cl,clV];done)|(dsimp only [ite00];done)|(with_reducible first|exact SubLv.refl _|refine subLv_int ?_ ?_|refine subLv_frac ?_ ?_)|(dsimp only [ite00];with_reducible exact SubLv.refl _)|fail))
          all_goals rfl
        · intro i g1
          have t1:=take_bd hlb i (by omega)
          have t2:=fun h=>take_sum (l:=l) (i:=i) h
          have t3:=fun (h:i < l.length)=>hlb _ (getD_mem h)
          have x1:=fun h=>low_w2 T K M (by omega) (by omega) (by omega) (by omega) (by omega) (by omega) (i:Int) (by omega) h
          have x2:=fun h=>y_w2 T K M (by omega) (by omega) (by omega) (by omega) (by omega) (by omega) (i:Int) (by omega) h
          have x3:=fun (h:i < M)=>wid_facts D T K M i (l.getD i 0) (by omega) (hw i h).1 (hw i h).2
          have x4:=fun (h:i < M)=>hw i h
          have x5:=fun (h:i < M)=>hw (M - 1 - i) (by omega)
          have x6:=wid_sym D T K M i (by omega)
          have e7:i < M→IntKind.i64.wrap (IntKind.i64.wrap ((M:Int) - 1) - i)=((M - 1 - i:Nat):Int):=fun h=>by
            rw [w64 (x:=(M:Int) - 1) (by omega) (by omega),w64 (by omega) (by omega)];omega
          repeat' (first|(with_reducible first|refine Wp_seq ?_|refine zwk ?_|refine Wp_block ?_|refine zgo ?_|refine zbn ?_|refine zge Tryz.results11 ?_|refine Sub.refl _|refine allP_nil|refine zoa1 (out':=?_) ?_|refine zca1 (y:=?_) ?_|refine zea1 (eo':=?_) ?_)|(with_reducible refine zrs [35] hc ?_ ?_;focus (with_unfolding_all rfl))|(with_reducible refine zrm [35] hc mixed ?_ ?_;focus (with_unfolding_all rfl))|(with_reducible refine allP_cons ?_ ?_;focus (first|decide|omega))|(with_reducible first|refine zg2 ?_ ?_|refine zbo ?_|refine zg3 ?_ (fun h=>?_) (fun h=>?_)|refine zg4 (fun h=>?_) (fun h=>?_)|fail)|((first|omega|contradiction);done))
          · have y3:=x3 (by omega)
            have y4:=(x4 (by omega)).1
            have y5:=(x5 (by omega)).1
            have y7:=e7 (by omega)
            have y8:l.getD (M - 1 - i) 0=l.getD i 0:=by
              rw [y4,y5,←x6]
              exact congrArg (fun z=>((wid D T K M z:Nat):Int)) (by omega)
            obtain ⟨z1,z2,z3,z4⟩:=y3
            rw [x1 h]
            clear x3 x4 x5 x6 e7 y4 y5
            repeat' (first|(with_reducible first|refine Wp_seq ?_|refine zwk ?_|refine Wp_block ?_|refine zgo ?_|refine zbn ?_|refine zge Tryz.results11 ?_|refine Sub.refl _|refine allP_nil|refine zoa1 (out':=?_) ?_|refine zca1 (y:=?_) ?_|refine zea1 (eo':=?_) ?_)|(with_reducible refine zrs [36] hc ?_ ?_;focus (with_unfolding_all rfl))|(with_reducible refine zrm [36] hc mixed ?_ ?_;focus (with_unfolding_all rfl))|(with_reducible refine allP_cons ?_ ?_;focus (first|decide|omega))|(with_reducible first|refine zg2 ?_ ?_|refine zbo ?_|refine zg3 ?_ (fun h=>?_) (fun h=>?_)|refine zg4 (fun h=>?_) (fun h=>?_)|fail)|((first|omega|contradiction);done))
            rw [x2 (by omega)]
            generalize farB (T:Int) K M i=y at z3 z4 ⊢
            clear x1 x2
            dsimp only [List.append]
            repeat' (first|(with_reducible first|refine Wp_seq ?_|refine zr0 hc ?_|refine zm0 hc ?_|refine zwk ?_|refine Wp_block ?_|refine zgo ?_|refine zbn ?_|refine zge Tryz.results11 ?_|refine Sub.refl _|refine allP_nil|refine zoa1 (out':=?_) ?_|refine zca1 (y:=?_) ?_|refine zea1 (eo':=?_) ?_)|(with_reducible refine allP_cons ?_ ?_;focus (first|decide|omega))|(with_reducible first|refine zg2 ?_ ?_|refine zbo ?_|refine zg3 ?_ (fun h=>?_) (fun h=>?_)|refine zg4 (fun h=>?_) (fun h=>?_)|fail)|((first|omega|contradiction);done))
            · have g3:=t2 (by omega)
              have g5:=t3 (by omega)
              refine ⟨i+1,by omega,by omega,?_⟩
              refine zwa1 (l1:=?_) (h1:=?_) ?_ ?_ <;> (repeat' (first|(with_reducible first|exact slotsOk_nil|exact boxesOk_nil|refine slotsOk_eq ?_ ?_|refine slotsOk_cons ?_ ?_ ?_|refine boxesOk_one rfl ?_ ?_ ?_|refine boxesOk_cons rfl (fun i hi=>?_) ?_ (fun i hi=>?_) ?_|refine sub_int ?_|refine sub_own_eq ?_ ?_|refine sub_gr_eq ?_ ?_|exact sub_nil_gr|exact sub_own_gr)|(first|omega|(simp only [IntKind.wrap_i64,IntKind.wrap_u64,List.length_append,List.length_singleton,List.length_cons,List.length_nil];omega))|((first|show AV.cl _ _|show clL _ _);simp [AV.cl,clL,Leaf.cl,clV];done)|(dsimp only [ite00];done)|(with_reducible first|exact SubLv.refl _|refine subLv_int ?_ ?_|refine subLv_frac ?_ ?_)|(dsimp only [ite00];with_reducible exact SubLv.refl _)|fail))
            · rw [y7,Int.toNat_natCast,y8] at h
              exact absurd rfl h
          · have e:(l.take i).sum=l.sum:=by rw [show i=l.length by omega,List.take_length]
            exact sub_eq (congrArg Bo (decide_eq_true (by omega)))
          · have e:(l.take i).sum=l.sum:=by rw [show i=l.length by omega,List.take_length]
            exfalso;omega
end
end Go.Proofs
end
