/- Lemmas on the program and its library, part M1. -/
import Derived.Test.YtalgbhjnbgkneaaGreatDoorZN9
set_option linter.unusedVariables false
set_option linter.unusedSimpArgs false
section
set_option maxHeartbeats 4000000
set_option maxRecDepth 100000
namespace Go.Proofs
open Go.Ax
theorem farR_eq (t k n i:Int) {y:Int} (h:y=if (if lowB t k n i < -lowB t k n i then -lowB t k n i else lowB t k n i) < (if lowB t k n i+2*t < - (lowB t k n i+2*t) then -(lowB t k n i+2*t) else lowB t k n i+2*t) then (if lowB t k n i+2*t < - (lowB t k n i+2*t) then -(lowB t k n i+2*t) else lowB t k n i+2*t) else (if lowB t k n i < -lowB t k n i then -lowB t k n i else lowB t k n i)):y=farB t k n i:=by
  rw [h]
  unfold farB mxI
  repeat' split
  all_goals omega
theorem wid_iff {d:Nat} {t k n i:Int} {w:Nat} (hw:0 < w):w≤wid d t k n i↔farB t k n i≤d∧(w:Int)*w+farB t k n i*farB t k n i≤d*d:=by
  have h0:=farB_pos t k n i
  obtain ⟨y,hy⟩:∃y:Nat,farB t k n i=y:=⟨(farB t k n i).toNat,(Int.toNat_of_nonneg h0).symm⟩
  unfold wid
  rw [hy,Int.toNat_natCast]
  have hww:0 < w*w:=Nat.mul_pos hw hw
  have e:((w:Int)*w+y*y≤d*d)↔y*y+w*w≤d*d:=by
    rw [←Int.natCast_mul,←Int.natCast_mul,←Int.natCast_mul,←Int.natCast_add]
    omega
  rw [e]
  by_cases h:(y:Int) < d
  · rw [if_pos h,sid_iff hw]
    constructor
    · exact fun g=>⟨by omega,g⟩
    · exact fun g=>g.2
  · rw [if_neg h]
    constructor
    · intro g;omega
    · rintro ⟨g1,g2⟩
      have:y=d:=by omega
      subst this
      omega
theorem r_Boards (d:Nat) (t k:Int) (n:Nat) (hd:d≤10000) (h1:0≤t) (h2:t≤10000) (h3:0≤k) (h4:k≤10000) (h6:n≤64):Ax.Pure Tryz.prog G 42 [N d,N t,N k,N n] (.tup [L64 (bdsR d t k n),Bo (bdsOk d t k n n)]):=by
  have hl:=bdsL_len d t k n
  have e1:=hgt_w t k n h1 h2 h3 h4 (by omega) (by omega)
  unfold bdsR
  refine zen Tryz.func42 rfl Tryz.ntmps42 ?_
  intro w0 E0 hc
  repeat' (first|(with_reducible first|refine Wp_seq ?_|refine zr0 hc ?_|refine zm0 hc ?_|refine zwk ?_|refine Wp_block ?_|refine zgo ?_|refine zbn ?_|refine zge Tryz.results42 ?_|refine Sub.refl _|refine allP_nil|refine zoa1 (out':=?_) ?_|refine zca1 (y:=?_) ?_|refine zea1 (eo':=?_) ?_)|(with_reducible refine allP_cons ?_ ?_;focus (first|decide|omega))|(with_reducible first|refine zg2 ?_ ?_|apply zagr hc|apply zanil hc|refine appK_intro (fun cc_ hcc_=>?_)|exact zia1|refine zbo ?_|refine zg3 ?_ (fun h=>?_) (fun h=>?_)|refine zg4 (fun h=>?_) (fun h=>?_)|fail)|(exact Is.refl _)|(omega;done))
  rw [e1]
  refine Wp_loopI (α:=Nat×Nat) (fun p=>stOf [(0,N d),(1,N t),(2,N k),(3,N n),(11,.one (.gr 0 1 p.1 p.2)),(10,N (hgt t k n)),(12,N p.1)] [(0,⟨1,p.2,rowG .i64 (bdsL d t k n p.1),true⟩)] 1)
    (fun p=>p.1≤n∧p.1≤p.2∧bdsOk d t k n p.1=true) (fun p=>n - p.1) (0,0) ⟨Nat.zero_le _,Nat.zero_le _,rfl⟩ ?_ ?_
  · refine zW2 ?_ <;> repeat' (with_reducible first|exact trivial|refine zan ?_ ?_|refine zal (fun i hi=>?_))
  · rintro ⟨i,cc⟩ ⟨g1,hcc,g2⟩
    dsimp only at g1 hcc g2
    have hl1:=hl i
    have hl2:=hl (i+1)
    have hs:=bdsL_snoc d t k n i
    have e2:=fun h=>low_w t k n h1 h2 h3 h4 (by omega) (by omega) (i:Int) (by omega) h
    have e3:=fun h=>low_bd t k n h1 h2 h3 h4 (by omega) (by omega) (i:Int) (by omega) h
    have no:=fun (h:i < n) (h0:wid d t k n i=0)=>bds_no h h0
    repeat' (first|(with_reducible first|refine Wp_seq ?_|refine zwk ?_|refine Wp_block ?_|refine zgo ?_|refine zbn ?_|refine zge Tryz.results42 ?_|refine Sub.refl _|refine allP_nil|refine zoa1 (out':=?_) ?_|refine zca1 (y:=?_) ?_|refine zea1 (eo':=?_) ?_)|(with_reducible refine zrs [7,15] hc ?_ ?_;focus (with_unfolding_all rfl))|(with_reducible refine zrm [7,15] hc mixed ?_ ?_;focus (with_unfolding_all rfl))|(with_reducible refine allP_cons ?_ ?_;focus (first|decide|omega))|(with_reducible first|refine zg2 ?_ ?_|apply zagr hc|apply zanil hc|refine appK_intro (fun cc_ hcc_=>?_)|exact zia1|refine zbo ?_|refine zg3 ?_ (fun h=>?_) (fun h=>?_)|refine zg4 (fun h=>?_) (fun h=>?_)|fail)|(exact Is.refl _)|((first|omega|decide);done))
    · rw [e2 h]
      have b3:=e3 h
      repeat' (first|(with_reducible first|refine Wp_seq ?_|refine zwk ?_|refine Wp_block ?_|refine zgo ?_|refine zbn ?_|refine zge Tryz.results42 ?_|refine Sub.refl _|refine allP_nil|refine zoa1 (out':=?_) ?_|refine zca1 (y:=?_) ?_|refine zea1 (eo':=?_) ?_)|(with_reducible refine zrs [9] hc ?_ ?_;focus (with_unfolding_all rfl))|(with_reducible refine zrm [9] hc mixed ?_ ?_;focus (with_unfolding_all rfl))|(with_reducible refine allP_cons ?_ ?_;focus (first|decide|omega))|(with_reducible first|refine zg2 ?_ ?_|apply zagr hc|apply zanil hc|refine appK_intro (fun cc_ hcc_=>?_)|exact zia1|refine zbo ?_|refine zg3 ?_ (fun h=>?_) (fun h=>?_)|refine zg4 (fun h=>?_) (fun h=>?_)|fail)|(exact Is.refl _)|((first|omega|decide);done))
      rw [w64 (x:=2*t) (by omega) (by omega),w64 (x:=lowB t k n i+2*t) (by omega) (by omega),w64 (x:=0 - lowB t k n i) (by omega) (by omega),w64 (x:=0 - (lowB t k n i+2*t)) (by omega) (by omega),Int.zero_sub,Int.zero_sub,farR_eq t k n i rfl]
      have f0:=farB_pos t k n i
      have hw:=wid_le d t k n i
      repeat' (first|(with_reducible first|refine Wp_seq ?_|refine zr0 hc ?_|refine zm0 hc ?_|refine zwk ?_|refine Wp_block ?_|refine zgo ?_|refine zbn ?_|refine zge Tryz.results42 ?_|refine Sub.refl _|refine allP_nil|refine zoa1 (out':=?_) ?_|refine zca1 (y:=?_) ?_|refine zea1 (eo':=?_) ?_)|(with_reducible refine allP_cons ?_ ?_;focus (first|decide|omega))|(with_reducible first|refine zg2 ?_ ?_|apply zagr hc|apply zanil hc|refine appK_intro (fun cc_ hcc_=>?_)|exact zia1|refine zbo ?_|refine zg3 ?_ (fun h=>?_) (fun h=>?_)|refine zg4 (fun h=>?_) (fun h=>?_)|fail)|(exact Is.refl _)|((first|omega|decide);done))
      refine Wp_loopI (α:=Nat) (fun w=>stOf [(0,N d),(1,N t),(2,N k),(3,N n),(11,.one (.gr 0 1 i cc)),(10,N (hgt t k n)),(12,N i),(15,N (farB t k n i)),(16,N w)] [(0,⟨1,cc,rowG .i64 (bdsL d t k n i),true⟩)] 1)
        (fun w=>w≤wid d t k n i) (fun w=>wid d t k n i - w) 0 (Nat.zero_le _) ?_ ?_
      · refine zW2 ?_ <;> repeat' (with_reducible first|exact trivial|refine zan ?_ ?_|refine zal (fun i hi=>?_))
      · intro w g3
        have hi:=wid_iff (d:=d) (t:=t) (k:=k) (n:=n) (i:=i) (w:=w+1) (by omega)
        have w1:IntKind.i64.wrap ((w:Int)+1)=((w+1:Nat):Int):=by rw [w64 (by omega) (by omega)];omega
        have m1:(w+1)*(w+1)≤100020001:=Nat.mul_le_mul (show w+1≤10001 by omega) (show w+1≤10001 by omega)
        have m2:d*d≤100000000:=Nat.mul_le_mul hd hd
        have w2:IntKind.i64.wrap ((d:Int)*d)=(d:Int)*d:=by rw [←Int.natCast_mul];exact w64n (by omega)
        have w3:IntKind.i64.wrap (((w+1:Nat):Int)*((w+1:Nat):Int))=((w+1:Nat):Int)*((w+1:Nat):Int):=by rw [←Int.natCast_mul];exact w64n (by omega)
        have w4:farB t k n i≤d→IntKind.i64.wrap (farB t k n i*farB t k n i)=farB t k n i*farB t k n i∧IntKind.i64.wrap (((w+1:Nat):Int)*((w+1:Nat):Int)+farB t k n i*farB t k n i)=((w+1:Nat):Int)*((w+1:Nat):Int)+farB t k n i*farB t k n i:=fun g=>by
          have m3:=mul_bd f0 (show farB t k n i≤10000 by omega) f0 (show farB t k n i≤10000 by omega)
          have m4:((w+1:Nat):Int)*((w+1:Nat):Int)=(((w+1)*(w+1):Nat):Int):=by rw [Int.natCast_mul]
          rw [m4]
          exact ⟨w64 (by omega) (by omega),w64 (by omega) (by omega)⟩
        have hq:farB t k n i≤d→(IntKind.i64.wrap (IntKind.i64.wrap (IntKind.i64.wrap ((w:Int)+1)*IntKind.i64.wrap ((w:Int)+1))+IntKind.i64.wrap (farB t k n i*farB t k n i))≤IntKind.i64.wrap ((d:Int)*d)↔w+1≤wid d t k n i):=fun g=>by
          rw [w1,w3,(w4 g).1,(w4 g).2,w2,hi]
          exact ⟨fun h=>⟨g,h⟩,And.right⟩
        have hz:¬farB t k n i≤d→wid d t k n i=0:=fun g=>wid_ge (by omega)
        clear w2 w3 w4 hi m1 m2
        repeat' (first|(with_reducible first|refine Wp_seq ?_|refine zr0 hc ?_|refine zm0 hc ?_|refine zwk ?_|refine Wp_block ?_|refine zgo ?_|refine zbn ?_|refine zge Tryz.results42 ?_|refine Sub.refl _|refine allP_nil|refine zoa1 (out':=?_) ?_|refine zca1 (y:=?_) ?_|refine zea1 (eo':=?_) ?_)|(with_reducible refine allP_cons ?_ ?_;focus (first|decide|omega))|(with_reducible first|refine zg2 ?_ ?_|apply zagr hc|apply zanil hc|refine appK_intro (fun cc_ hcc_=>?_)|exact zia1|refine zbo ?_|refine zg3 ?_ (fun h=>?_) (fun h=>?_)|refine zg4 (fun h=>?_) (fun h=>?_)|fail)|(exact Is.refl _)|((first|omega|decide);done))
        · rename_i g
          have h':=(hq g).1 h
          refine ⟨w+1,h',by omega,?_⟩
          refine zW2 ?_ <;> repeat' (with_reducible first|exact trivial|refine zan ?_ ?_|refine zal (fun i hi=>?_))
        · rename_i g1 g2
          have h':=mt (hq g1).2 g2
          rw [no (by omega) (by omega)];exact sub_tup2 sub_nil (Sub.refl _)
        rotate_left
        · rename_i g
          rw [no (by omega) (hz g)];exact sub_tup2 sub_nil (Sub.refl _)
        rotate_right
        all_goals
          have hx:w=wid d t k n i:=by
            first
            | (rename_i g1 g2 cc_ hcc_;have h':=mt (hq g1).2 g2;omega)
            | (rename_i g cc_ hcc_;have h':=hz g;omega)
            | omega
          subst hx
          refine ⟨(i+1,cc_),⟨by dsimp only;omega,hcc_,?_⟩,by dsimp only;omega,?_⟩
          · dsimp only
            rw [bdsOk_snoc,g2,Bool.true_and]
            exact decide_eq_true (by omega)
          · refine zW2 ?_ <;> repeat' (with_reducible first|exact trivial|refine zan ?_ ?_|refine zal (fun i hi=>?_))
            rw [hs]
    · have e:i=n:=by omega
      subst e
      refine Wp_frzG hc 0 11 i cc .i64 (bdsL d t k i i) [] [] 1 [] [] ?_ rfl hl1 hcc rfl rfl (fun _ h=>by cases h) ?_
      · refine zW2 ?_ <;> repeat' (with_reducible first|exact trivial|refine zan ?_ ?_|refine zal (fun i hi=>?_))
      · repeat' (first|refine zR1 hc Tryz.results42 ?_|(with_reducible first|exact trivial|refine zan ?_ ?_|refine zim (fun h=>?_)|fail))
        all_goals exact sub_eq (by rw [g2];rfl)
theorem r_BestBoards (d:Nat) (t k:Int) (hd:d≤10000) (h1:0≤t) (h2:t≤10000) (h3:0≤k) (h4:k≤10000):Ax.Pure Tryz.prog G 41 [N d,N t,N k] (N (bbB d t k 64).1):=by
  refine zen Tryz.func41 rfl Tryz.ntmps41 ?_
  intro w0 E0 hc
  repeat' (first|refine zR1 hc Tryz.results41 ?_|(with_reducible first|exact trivial|refine zan ?_ ?_|refine zim (fun h=>?_)|fail)|(omega;done))
  refine Wp_loopI (α:=Nat×Int×Int) (fun p=>stOf [(0,N d),(1,N t),(2,N k),(7,N p.2.1),(8,N p.2.2),(9,N ((p.1+1:Nat):Int))] [] 0)
    (fun p=>p.1≤64∧bbB d t k p.1=(p.2.1,p.2.2)∧0≤p.2.2) (fun p=>64 - p.1) (0,0,0) ⟨Nat.zero_le _,rfl,Int.le_refl _⟩ ?_ ?_
  · refine zW2 ?_ <;> repeat' (with_reducible first|exact trivial|refine zan ?_ ?_|refine zal (fun i hi=>?_))
  · rintro ⟨n,b,s⟩ ⟨g1,g2,g3⟩
    dsimp only at g1 g2 g3
    have c_b:=fun g=>r_Boards d t k (n+1) hd h1 h2 h3 h4 g
    have hl:=bdsL_len d t k ((n+1:Nat):Int) (n+1)
    have hb:=bdsL_bd (d:=d) (t:=t) (k:=k) (n:=((n+1:Nat):Int)) (m:=n+1) hd
    have hn:bbB d t k (n+1)=if s < bsum d t k ((n+1:Nat):Int) then (((n+1:Nat):Int),bsum d t k ((n+1:Nat):Int)) else (b,s):=by
      unfold bbB at g2 ⊢
      rw [ons_snoc,bst_app,g2];rfl
    have w1:IntKind.i64.wrap (((n+1:Nat):Int)+1)=((n+1+1:Nat):Int):=by rw [w64 (by omega) (by omega)];omega
    have hs:bsum d t k ((n+1:Nat):Int)=if bdsOk d t k ((n+1:Nat):Int) (n+1)=true then (bdsL d t k ((n+1:Nat):Int) (n+1)).sum else 0:=by
      unfold bsum
      rw [Int.toNat_natCast]
    unfold bdsR at c_b
    cases e:bdsOk d t k ((n+1:Nat):Int) (n+1) with
    | false =>
      rw [e,if_neg Bool.false_ne_true] at hs
      rw [e,if_neg Bool.false_ne_true] at c_b
      rw [hs,if_neg (by omega)] at hn
      repeat' (first|refine zR1 hc Tryz.results41 ?_|(with_reducible first|exact trivial|refine zan ?_ ?_|refine zim (fun h=>?_)|refine zoc (c_b ?_) ?_ ?_|fail)|((first|omega|contradiction);done))
      · refine ⟨(n+1,b,s),⟨by dsimp only;omega,hn,g3⟩,by dsimp only;omega,?_⟩
        refine zW2 ?_ <;> repeat' (with_reducible first|exact trivial|refine zan ?_ ?_|refine zal (fun i hi=>?_))
      · have e64:n=64:=by omega
        rw [e64] at g2
        exact sub_eq (by rw [g2])
    | true =>
      rw [e,if_pos rfl] at hs
      rw [e,if_pos rfl] at c_b
      have c_s:=fun g=>r_sum (bdsL d t k ((n+1:Nat):Int) (n+1)) (by omega) (fun x hx=>hb x hx)
      rw [←hs] at c_s
      repeat' (first|refine zR1 hc Tryz.results41 ?_|(with_reducible first|exact trivial|refine zan ?_ ?_|refine zim (fun h=>?_)|refine zoc (c_b ?_) ?_ ?_|refine zoc (c_s ?_) ?_ ?_|fail)|((first|omega|contradiction);done))
      · rw [if_pos h] at hn
        refine ⟨(n+1,((n+1:Nat):Int),bsum d t k ((n+1:Nat):Int)),⟨by dsimp only;omega,hn,by dsimp only;omega⟩,by dsimp only;omega,?_⟩
        refine zW2 ?_ <;> repeat' (with_reducible first|exact trivial|refine zan ?_ ?_|refine zal (fun i hi=>?_))
      · rw [if_neg h] at hn
        refine ⟨(n+1,b,s),⟨by dsimp only;omega,hn,g3⟩,by dsimp only;omega,?_⟩
        refine zW2 ?_ <;> repeat' (with_reducible first|exact trivial|refine zan ?_ ?_|refine zal (fun i hi=>?_))
      · have e64:n=64:=by omega
        rw [e64] at g2
        exact sub_eq (by rw [g2])
theorem r_Same (l:List Int) (hl:l.length≤1000000):Ax.Pure Tryz.prog G 43 [L64 l,L64 l] (Bo true):=by
  refine zen Tryz.func43 rfl Tryz.ntmps43 ?_
  intro w0 E0 hc
  repeat' (first|refine zR1 hc Tryz.results43 ?_|(with_reducible first|exact trivial|refine zan ?_ ?_|refine zim (fun h=>?_)|fail)|((first|omega|contradiction);done))
  refine Wp_loopI (α:=Nat) (fun i=>stOf [(0,L64 l),(1,L64 l),(5,N i)] [] 0) (fun i=>i≤l.length) (fun i=>l.length - i) 0 (Nat.zero_le _) ?_ ?_
  · refine zW2 ?_ <;> repeat' (with_reducible first|exact trivial|refine zan ?_ ?_|refine zal (fun i hi=>?_))
  · intro i h1
    repeat' (first|refine zR1 hc Tryz.results43 ?_|(with_reducible first|exact trivial|refine zan ?_ ?_|refine zim (fun h=>?_)|fail)|((first|omega|contradiction);done))
    · refine ⟨i+1,by omega,by omega,?_⟩
      refine zW2 ?_ <;> repeat' (with_reducible first|exact trivial|refine zan ?_ ?_|refine zal (fun i hi=>?_))
end Go.Proofs
end
section
set_option maxHeartbeats 4000000
set_option maxRecDepth 100000
namespace Go.Proofs
open Go.Ax
abbrev sawA (d t k:Int):AV:=.agg [.v (.int .i64 d),.v (.int .i64 t),.v (.int .i64 k)]
section
variable (c_aw:Ax.Pure Tryz.prog G 17 [] (Bo true)) (d t k n:Int)
include c_aw
theorem brd_a (hA:120 < d) (hB:d≤10000):Ax.Pure Tryz.prog G 6 [sawA d t k,N n] (Bo true):=by
  have c_lw:=l_when
  refine zen Tryz.func6 rfl Tryz.ntmps6 ?_
  intro w0 E0 hc
  repeat' (first|(with_reducible first|refine Wp_seq ?_|refine zr0 hc ?_|refine zm0 hc ?_|refine zwk ?_|refine Wp_block ?_|refine zgo ?_|refine zbn ?_|refine zge Tryz.results6 ?_|refine Sub.refl _|refine allP_nil|refine zoa1 (out':=?_) ?_|refine zca1 (y:=?_) ?_|refine zea1 (eo':=?_) ?_)|(with_reducible refine allP_cons ?_ ?_;focus (first|decide|omega))|(with_reducible first|refine zg2 ?_ ?_|refine zoc c_aw ?_ ?_|refine zbo ?_|refine zg3 ?_ (fun h=>?_) (fun h=>?_)|refine zg4 (fun h=>?_) (fun h=>?_)|fail)|((first|omega|contradiction);done))
theorem brd_b (hA:¬(120 < d∧d≤10000)) (x:Int) (c_1:Ax.Pure Tryz.prog G 38 [N d,N t,N k,N n] (.tup [L64 [],N 3])) (c_2:Ax.Pure Tryz.prog G 39 [N d,N t,N k] (.tup [N 0,N 3])) (c_3:Ax.Pure Tryz.prog G 40 [rw2 d t] (N x)) (c_f:∀b,Ax.Pure Tryz.prog G 36 [rw2 x b] (N 3)) (c_6:Ax.Pure Tryz.prog G 24 [N 0,N 3,N 3,N 0] (Bo true)):Ax.Pure Tryz.prog G 6 [sawA d t k,N n] (Bo true):=by
  have c_lw:=l_when
  refine zen Tryz.func6 rfl Tryz.ntmps6 ?_
  intro w0 E0 hc
  repeat' (first|(with_reducible first|refine Wp_seq ?_|refine zr0 hc ?_|refine zm0 hc ?_|refine zwk ?_|refine Wp_block ?_|refine zgo ?_|refine zbn ?_|refine zge Tryz.results6 ?_|refine Sub.refl _|refine allP_nil|refine zoa1 (out':=?_) ?_|refine zca1 (y:=?_) ?_|refine zea1 (eo':=?_) ?_)|(with_reducible refine allP_cons ?_ ?_;focus (first|decide|omega))|(with_reducible first|refine zg2 ?_ ?_|refine zoc c_aw ?_ ?_|refine zoc c_1 ?_ ?_|refine zoc c_2 ?_ ?_|refine zoc c_3 ?_ ?_|refine zoc (c_f _) ?_ ?_|refine zoc c_6 ?_ ?_|refine zoc (c_lw _ _) ?_ ?_|refine zbo ?_|refine zg3 ?_ (fun h=>?_) (fun h=>?_)|refine zg4 (fun h=>?_) (fun h=>?_)|fail)|((first|omega|contradiction);done))
  all_goals skip
end
end Go.Proofs
end
section
set_option maxHeartbeats 4000000
set_option maxRecDepth 100000
namespace Go.Proofs
open Go.Ax
section
variable (c_aw:Ax.Pure Tryz.prog G 17 [] (Bo true)) (d t k n:Int)
include c_aw
theorem brd_c (hA:¬(120 < d∧d≤10000)) (c_1:Ax.Pure Tryz.prog G 38 [N d,N t,N k,N n] (.tup [L64 [],N 3])) (c_2:Ax.Pure Tryz.prog G 39 [N d,N t,N k] (.tup [N 0,N 3])) (c_3:Ax.Pure Tryz.prog G 40 [rw2 d t] (N 0)) (c_v:k < 0→Ax.Pure Tryz.prog G 33 [Bo true,N 3] (N 3)) (c_w:¬k < 0→Ax.Pure Tryz.prog G 33 [Bo (decide (10000 < k)),N 3] (N 3)) (c_f:Ax.Pure Tryz.prog G 36 [rw2 0 3] (N 3)) (c_6:Ax.Pure Tryz.prog G 24 [N 0,N 3,N 3,N 0] (Bo true)):Ax.Pure Tryz.prog G 6 [sawA d t k,N n] (Bo true):=by
  refine zen Tryz.func6 rfl Tryz.ntmps6 ?_
  intro w0 E0 hc
  repeat' (first|(with_reducible first|refine Wp_seq ?_|refine zr0 hc ?_|refine zm0 hc ?_|refine zwk ?_|refine Wp_block ?_|refine zgo ?_|refine zbn ?_|refine zge Tryz.results6 ?_|refine Sub.refl _|refine allP_nil|refine zoa1 (out':=?_) ?_|refine zca1 (y:=?_) ?_|refine zea1 (eo':=?_) ?_)|(with_reducible refine allP_cons ?_ ?_;focus (first|decide|omega))|(with_reducible first|refine zg2 ?_ ?_|refine zoc c_aw ?_ ?_|refine zoc c_1 ?_ ?_|refine zoc c_2 ?_ ?_|refine zoc c_3 ?_ ?_|refine zoc c_f ?_ ?_|refine zoc c_6 ?_ ?_|refine zoc (c_v ?_) ?_ ?_|refine zoc (c_w ?_) ?_ ?_|refine zbo ?_|refine zg3 ?_ (fun h=>?_) (fun h=>?_)|refine zg4 (fun h=>?_) (fun h=>?_)|fail)|((first|omega|contradiction);done))
theorem brd_d (b e:Int) (hA:¬(120 < d∧d≤10000)) (hk:0≤k) (hn:n < 1∨64 < n) (c_1:Ax.Pure Tryz.prog G 38 [N d,N t,N k,N n] (.tup [L64 [],N 3])) (c_2:Ax.Pure Tryz.prog G 39 [N d,N t,N k] (.tup [N b,N e])) (c_3:Ax.Pure Tryz.prog G 40 [rw2 d t] (N 0)) (c_w:Ax.Pure Tryz.prog G 33 [Bo (decide (10000 < k)),N 3] (N 0)) (c_f:Ax.Pure Tryz.prog G 36 [rw2 0 0] (N 0)) (c_4:Ax.Pure Tryz.prog G 41 [N d,N t,N k] (N b)) (c_v:Ax.Pure Tryz.prog G 33 [Bo (b == 0),N 7] (N e)) (c_6:Ax.Pure Tryz.prog G 24 [N b,N e,N e,N b] (Bo true)):Ax.Pure Tryz.prog G 6 [sawA d t k,N n] (Bo true):=by
  refine zen Tryz.func6 rfl Tryz.ntmps6 ?_
  intro w0 E0 hc
  repeat' (first|(with_reducible first|refine Wp_seq ?_|refine zr0 hc ?_|refine zm0 hc ?_|refine zwk ?_|refine Wp_block ?_|refine zgo ?_|refine zbn ?_|refine zge Tryz.results6 ?_|refine Sub.refl _|refine allP_nil|refine zoa1 (out':=?_) ?_|refine zca1 (y:=?_) ?_|refine zea1 (eo':=?_) ?_)|(with_reducible refine allP_cons ?_ ?_;focus (first|decide|omega))|(with_reducible first|refine zg2 ?_ ?_|refine zoc c_aw ?_ ?_|refine zoc c_1 ?_ ?_|refine zoc c_2 ?_ ?_|refine zoc c_3 ?_ ?_|refine zoc c_w ?_ ?_|refine zoc c_f ?_ ?_|refine zoc c_4 ?_ ?_|refine zoc c_v ?_ ?_|refine zoc c_6 ?_ ?_|refine zbo ?_|refine zg3 ?_ (fun h=>?_) (fun h=>?_)|refine zg4 (fun h=>?_) (fun h=>?_)|fail)|((first|omega|contradiction);done))
  all_goals exact sub_eq rfl
end
end Go.Proofs
end
section
set_option maxHeartbeats 4000000
set_option maxRecDepth 100000
namespace Go.Proofs
open Go.Ax
section
variable (c_aw:Ax.Pure Tryz.prog G 17 [] (Bo true)) (d t k n:Int)
include c_aw
theorem brd_e (b e:Int) (hA:¬(120 < d∧d≤10000)) (hk:0≤k) (hn:1≤n∧n≤64) (c_1:Ax.Pure Tryz.prog G 38 [N d,N t,N k,N n] (.tup [L64 [],N 7])) (c_2:Ax.Pure Tryz.prog G 39 [N d,N t,N k] (.tup [N b,N e])) (c_3:Ax.Pure Tryz.prog G 40 [rw2 d t] (N 0)) (c_w:Ax.Pure Tryz.prog G 33 [Bo (decide (10000 < k)),N 3] (N 0)) (c_f:Ax.Pure Tryz.prog G 36 [rw2 0 0] (N 0)) (c_4:Ax.Pure Tryz.prog G 41 [N d,N t,N k] (N b)) (c_v:Ax.Pure Tryz.prog G 33 [Bo (b == 0),N 7] (N e)) (c_6:Ax.Pure Tryz.prog G 24 [N b,N e,N e,N b] (Bo true)) (c_5:Ax.Pure Tryz.prog G 42 [N d,N t,N k,N n] (.tup [L64 [],Bo false])):Ax.Pure Tryz.prog G 6 [sawA d t k,N n] (Bo true):=by
  refine zen Tryz.func6 rfl Tryz.ntmps6 ?_
  intro w0 E0 hc
  repeat' (first|(with_reducible first|refine Wp_seq ?_|refine zr0 hc ?_|refine zm0 hc ?_|refine zwk ?_|refine Wp_block ?_|refine zgo ?_|refine zbn ?_|refine zge Tryz.results6 ?_|refine Sub.refl _|refine allP_nil|refine zoa1 (out':=?_) ?_|refine zca1 (y:=?_) ?_|refine zea1 (eo':=?_) ?_)|(with_reducible refine allP_cons ?_ ?_;focus (first|decide|omega))|(with_reducible first|refine zg2 ?_ ?_|refine zoc c_aw ?_ ?_|refine zoc c_1 ?_ ?_|refine zoc c_2 ?_ ?_|refine zoc c_3 ?_ ?_|refine zoc c_w ?_ ?_|refine zoc c_f ?_ ?_|refine zoc c_4 ?_ ?_|refine zoc c_v ?_ ?_|refine zoc c_6 ?_ ?_|refine zoc c_5 ?_ ?_|refine zbo ?_|refine zg3 ?_ (fun h=>?_) (fun h=>?_)|refine zg4 (fun h=>?_) (fun h=>?_)|fail)|((first|omega|contradiction);done))
  all_goals exact sub_eq rfl
theorem brd_f (b e:Int) (l:List Int) (hA:¬(120 < d∧d≤10000)) (hk:0≤k) (hn:1≤n∧n≤64) (c_1:Ax.Pure Tryz.prog G 38 [N d,N t,N k,N n] (.tup [L64 l,N 0])) (c_2:Ax.Pure Tryz.prog G 39 [N d,N t,N k] (.tup [N b,N e])) (c_3:Ax.Pure Tryz.prog G 40 [rw2 d t] (N 0)) (c_w:Ax.Pure Tryz.prog G 33 [Bo (decide (10000 < k)),N 3] (N 0)) (c_f:Ax.Pure Tryz.prog G 36 [rw2 0 0] (N 0)) (c_4:Ax.Pure Tryz.prog G 41 [N d,N t,N k] (N b)) (c_v:Ax.Pure Tryz.prog G 33 [Bo (b == 0),N 7] (N e)) (c_6:Ax.Pure Tryz.prog G 24 [N b,N e,N e,N b] (Bo true)) (c_5:Ax.Pure Tryz.prog G 42 [N d,N t,N k,N n] (.tup [L64 l,Bo true])) (c_s:Ax.Pure Tryz.prog G 43 [L64 l,L64 l] (Bo true)):Ax.Pure Tryz.prog G 6 [sawA d t k,N n] (Bo true):=by
  refine zen Tryz.func6 rfl Tryz.ntmps6 ?_
  intro w0 E0 hc
  repeat' (first|(with_reducible first|refine Wp_seq ?_|refine zr0 hc ?_|refine zm0 hc ?_|refine zwk ?_|refine Wp_block ?_|refine zgo ?_|refine zbn ?_|refine zge Tryz.results6 ?_|refine Sub.refl _|refine allP_nil|refine zoa1 (out':=?_) ?_|refine zca1 (y:=?_) ?_|refine zea1 (eo':=?_) ?_)|(with_reducible refine allP_cons ?_ ?_;focus (first|decide|omega))|(with_reducible first|refine zg2 ?_ ?_|refine zoc c_aw ?_ ?_|refine zoc c_1 ?_ ?_|refine zoc c_2 ?_ ?_|refine zoc c_3 ?_ ?_|refine zoc c_w ?_ ?_|refine zoc c_f ?_ ?_|refine zoc c_4 ?_ ?_|refine zoc c_v ?_ ?_|refine zoc c_6 ?_ ?_|refine zoc c_5 ?_ ?_|refine zoc c_s ?_ ?_|refine zbo ?_|refine zg3 ?_ (fun h=>?_) (fun h=>?_)|refine zg4 (fun h=>?_) (fun h=>?_)|fail)|((first|omega|contradiction);done))
end
end Go.Proofs
end
