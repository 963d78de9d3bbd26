/- Lemmas on the program and its library, part N9. -/
import Derived.Test.YtalgbhjnbgkneaaGreatDoorZN0
set_option linter.unusedVariables false
set_option linter.unusedSimpArgs false
section
set_option maxHeartbeats 4000000
set_option maxRecDepth 100000
namespace Go.Proofs
open Go.Ax
def bsum (d:Nat) (t k n:Int):Int:=if bdsOk d t k n n.toNat=true then (bdsL d t k n n.toNat).sum else 0
theorem bdsL_bd {d:Nat} {t k n:Int} {m:Nat} (hd:d≤10000):∀x∈bdsL d t k n m,0≤x∧x≤1000000000:=by
  intro x hx
  obtain ⟨j,_,rfl⟩:=List.mem_map.1 hx
  have:=wid_le d t k n j
  show 0≤((wid d t k n j:Nat):Int)∧((wid d t k n j:Nat):Int)≤1000000000
  omega
theorem needL_zero (l:List Int):needL l 0=l.sum:=by simp [needL]
abbrev pB (a:Int):AV:=.one (.pp [.v (.int .i64 a)])
abbrev capB (d t k:Int):List Leaf:=[.pp [.v (.int .i64 d)],.pp [.v (.int .i64 t)],.pp [.v (.int .i64 k)]]
theorem c_bbf (d:Nat) (t k:Int) (n:Nat) (hd:d≤10000) (h1:0≤t) (h2:t≤10000) (h3:0≤k) (h4:k≤10000) (h6:n≤64):Ax.Pure Tryz.prog G 104 [N n,pB d,pB t,pB k] (N (bsum d t k n)):=by
  have c_b:=c_boards d t k n hd h1 h2 h3 h4 h6
  have hl:=bdsL_len d t k n n
  unfold bsum
  rw [Int.toNat_natCast]
  cases e:bdsOk d t k n n with
  | false =>
    rw [e,if_neg Bool.false_ne_true] at c_b
    rw [if_neg Bool.false_ne_true]
    refine zen Tryz.func104 rfl Tryz.ntmps104 ?_
    intro w0 E0 hc
    repeat' (first|refine zR1 hc Tryz.results104 ?_|(with_reducible first|exact trivial|refine zan ?_ ?_|refine zim (fun h=>?_)|refine zoc c_b ?_ ?_|fail)|((first|omega|contradiction);done))
  | true =>
    rw [e,if_pos rfl] at c_b
    rw [if_pos rfl]
    have c_n:=c_need (bdsL d t k n n) 0 (by omega) (bdsL_bd hd) (by decide)
    rw [needL_zero] at c_n
    refine zen Tryz.func104 rfl Tryz.ntmps104 ?_
    intro w0 E0 hc
    repeat' (first|refine zR1 hc Tryz.results104 ?_|(with_reducible first|exact trivial|refine zan ?_ ?_|refine zim (fun h=>?_)|refine zoc c_b ?_ ?_|refine zoc c_n ?_ ?_|fail)|((first|omega|contradiction);done))
    all_goals exact Sub.refl _
theorem c_best3 (g:Int→Int) (f:Nat) (d t k:Int) (l:List Int) (hl:l.length≤1000000) (c_f:∀i,i < l.length→Ax.Pure Tryz.prog G f [N (l.getD i 0),pB d,pB t,pB k] (N (g (l.getD i 0)))):Ax.Pure Tryz.prog G 103 [L64 l,.one (.fn (.func f) [] (capB d t k))] (.tup [N (bst g l (0,0)).1,Bo (decide (0 < (bst g l (0,0)).2))]):=by
  refine zen Tryz.func103 rfl Tryz.ntmps103 ?_
  intro w0 E0 hc
  repeat' (first|refine zR1 hc Tryz.results103 ?_|(with_reducible first|exact trivial|refine zan ?_ ?_|refine zim (fun h=>?_)|fail)|((first|omega|contradiction);done))
  refine Wp_loopI (α:=Nat×Int×Int) (fun p=>stOf [(0,L64 l),(1,.one (.fn (.func f) [] (capB d t k))),(6,N p.2.1),(7,N p.2.2),(11,L64 l),(12,N l.length),(13,N p.1)] [] 0) (fun p=>p.1≤l.length∧bst g l (0,0)=bst g (l.drop p.1) (p.2.1,p.2.2)) (fun p=>l.length - p.1) (0,0,0) ⟨Nat.zero_le _,rfl⟩ ?_ ?_
  · refine zW2 ?_ <;> repeat' (with_reducible first|exact trivial|refine zan ?_ ?_|refine zal (fun i hi=>?_))
  · rintro ⟨i,o,m⟩ ⟨h1,h2⟩
    dsimp only at h1 h2
    have c_g:=fun h:i < l.length=>c_f i h
    have hd:=fun h:i < l.length=>bst_drop g h (o,m)
    repeat' (first|refine zR1 hc Tryz.results103 ?_|(with_reducible first|exact trivial|refine zan ?_ ?_|refine zim (fun h=>?_)|refine zoc (c_g ?_) ?_ ?_|fail)|((first|omega|contradiction);done))
    · have hd':=hd (by omega)
      rw [if_pos h] at hd'
      refine ⟨(i+1,l.getD i 0,g (l.getD i 0)),⟨by dsimp only;omega,by rw [h2,hd']⟩,by dsimp only;omega,?_⟩
      refine zW2 ?_ <;> repeat' (with_reducible first|exact trivial|refine zan ?_ ?_|refine zal (fun i hi=>?_))
    · have hd':=hd (by omega)
      rw [if_neg h] at hd'
      refine ⟨(i+1,o,m),⟨by dsimp only;omega,by rw [h2,hd']⟩,by dsimp only;omega,?_⟩
      refine zW2 ?_ <;> repeat' (with_reducible first|exact trivial|refine zan ?_ ?_|refine zal (fun i hi=>?_))
    · have:l.length≤i:=by omega
      rw [List.drop_eq_nil_of_le this] at h2
      exact sub_eq (by rw [h2];rfl)
def ons (n:Nat):List Int:=(List.range n).map fun (i:Nat)=>((i+1:Nat):Int)
theorem ons_len (n:Nat):(ons n).length=n:=by simp [ons]
theorem ons_snoc (n:Nat):ons (n+1)=ons n++ [((n+1:Nat):Int)]:=by simp [ons,List.range_succ]
theorem ons_get {n i:Nat} (h:i < n):(ons n).getD i 0=((i+1:Nat):Int):=by
  unfold ons
  simp [List.getD_eq_getElem?_getD,h]
def bbB (d:Nat) (t k:Int) (n:Nat):Int×Int:=bst (bsum d t k) (ons n) (0,0)
theorem bbB_in (d:Nat) (t k:Int) (n:Nat):∃m:Nat,m≤n∧(bbB d t k n).1=m∧(0 < (bbB d t k n).2↔0 < m):=by
  unfold bbB
  refine bst_prop (bsum d t k) (fun p=>∃m:Nat,m≤n∧p.1=m∧0≤p.2∧(0 < p.2↔0 < m)) _ _ ⟨0,Nat.zero_le _,rfl,by decide,by decide⟩ (fun x hx q hq hlt=>?_) |>.imp fun k h=>⟨h.1,h.2.1,h.2.2.2⟩
  obtain ⟨i,hi,rfl⟩:=List.mem_map.1 hx
  obtain ⟨_,_,_,h3,_⟩:=hq
  refine ⟨i+1,by have:=List.mem_range.1 hi;omega,rfl,by dsimp only;omega,⟨fun _=>by omega,fun _=>by dsimp only;omega⟩⟩
theorem ones_eq:List.take ((rng 65).length - 1) (List.drop 1 (rng 65))=ons 64:=by decide +kernel
theorem c_BestBoards (d:Nat) (t k:Int) (h0:logE d t k=0):Ax.Pure Tryz.prog G 39 [N d,N t,N k] (.tup [N (bbB d t k 64).1,N (if (bbB d t k 64).1=0 then 7 else 0)]):=by
  obtain ⟨h1,h2,h3⟩:=logE_ok h0
  have c_l:=c_checkLog d t k
  rw [h0] at c_l
  have c_n:=c_numbers 65 (by decide)
  have hl:=ons_len 64
  have c_b:=c_best3 (bsum d t k) 104 d t k (ons 64) (by omega) (fun i hi=>by
    rw [hl] at hi
    rw [ons_get hi]
    exact c_bbf d t k (i+1) (by omega) (by omega) (by omega) (by omega) (by omega) (by omega))
  rw [show bst (bsum d t k) (ons 64) (0,0)=bbB d t k 64 from rfl] at c_b
  obtain ⟨m,g1,g2,g3⟩:=bbB_in d t k 64
  rw [g2,←ones_eq] at c_b
  rw [g2]
  have hr:=rng_len 65
  refine zen Tryz.func39 rfl Tryz.ntmps39 ?_
  intro w0 E0 hc
  repeat' (first|(with_reducible first|refine Wp_seq ?_|refine zwk ?_|refine Wp_block ?_|refine zgo ?_|refine zbn ?_|refine zge Tryz.results39 ?_|refine Sub.refl _|refine allP_nil|refine zoa1 (out':=?_) ?_|refine zca1 (y:=?_) ?_|refine zea1 (eo':=?_) ?_)|(with_reducible refine zrs [4] hc ?_ ?_;focus (with_unfolding_all rfl))|(with_reducible refine zrm [4] hc mixed ?_ ?_;focus (with_unfolding_all rfl))|(with_reducible refine allP_cons ?_ ?_;focus (first|decide|omega))|(with_reducible first|refine zg2 ?_ ?_|refine zoc c_l ?_ ?_|refine zbo ?_|refine zg3 ?_ (fun h=>?_) (fun h=>?_)|refine zg4 (fun h=>?_) (fun h=>?_)|fail)|((first|omega|contradiction);done))
  refine Wp_frzP hc 0 (sz:=1) (ro:=false) (g:=fun _=> [.v (.int .i64 d)]) (Is.refl _) ⟨trivial,trivial⟩ rfl ?_
  refine Wp_frzP hc 1 (sz:=1) (ro:=false) (g:=fun _=> [.v (.int .i64 t)]) (Is.refl _) ⟨trivial,trivial⟩ rfl ?_
  refine Wp_frzP hc 2 (sz:=1) (ro:=false) (g:=fun _=> [.v (.int .i64 k)]) (Is.refl _) ⟨trivial,trivial⟩ rfl ?_
  refine Wp_weaker (st':=stOf [(3,pB d),(4,pB t),(5,pB k),(6,N 0),(7,N 0)] [] 3) ?_ ?_
  · refine zW2 ?_ <;> repeat' (with_reducible first|exact trivial|refine zan ?_ ?_|refine zal (fun i hi=>?_))
  repeat' (first|refine zR1 hc Tryz.results39 ?_|(with_reducible first|exact trivial|refine zan ?_ ?_|refine zim (fun h=>?_)|refine zoc c_n ?_ ?_|refine zoc c_b ?_ ?_|fail)|((first|omega|contradiction);done))
  · have h4:¬0 < (bbB d t k 64).2:=by simpa using h
    have h5:m=0:=by omega
    subst h5
    exact Sub.refl _
  · have h4:0 < (bbB d t k 64).2:=by simpa using h
    have h5:(m:Int)≠0:=by omega
    rw [if_neg h5];exact Sub.refl _
theorem c_BestBoards_bad (d t k:Int) (h0:logE d t k≠0):Ax.Pure Tryz.prog G 39 [N d,N t,N k] (.tup [N 0,N (logE d t k)]):=by
  have c_l:=c_checkLog d t k
  refine zen Tryz.func39 rfl Tryz.ntmps39 ?_
  intro w0 E0 hc
  repeat' (first|refine zR1 hc Tryz.results39 ?_|(with_reducible first|exact trivial|refine zan ?_ ?_|refine zim (fun h=>?_)|refine zoc c_l ?_ ?_|fail)|((first|omega|contradiction);done))
def bdsR (d:Nat) (t k:Int) (n:Nat):List Int:=if bdsOk d t k n n=true then bdsL d t k n n else []
theorem c_Boards (d:Nat) (t k:Int) (n:Nat) (h0:logE d t k=0) (h1:1≤n) (h2:n≤64):Ax.Pure Tryz.prog G 38 [N d,N t,N k,N n] (.tup [L64 (bdsR d t k n),N (if bdsOk d t k n n=true then 0 else 7)]):=by
  obtain ⟨g1,g2,g3⟩:=logE_ok h0
  have c_l:=c_checkLog d t k
  rw [h0] at c_l
  have c_f:=c_first2 0 0
  have c_b:=c_boards d t k n (by omega) (by omega) (by omega) (by omega) (by omega) h2
  have c_w:=c_nwhen (!bdsOk d t k n n) 7
  have e:(if (!bdsOk d t k n n)=true then (7:Int) else 0)=if bdsOk d t k n n=true then 0 else 7:=by
    cases bdsOk d t k n n <;> rfl
  rw [e] at c_w
  unfold bdsR
  have c_v:=c_nwhen (decide (64 < (n:Int))) 3
  rw [if_neg (by simp;omega)] at c_v
  refine zen Tryz.func38 rfl Tryz.ntmps38 ?_
  intro w0 E0 hc
  repeat' (first|refine zR1 hc Tryz.results38 ?_|(with_reducible first|exact trivial|refine zan ?_ ?_|refine zim (fun h=>?_)|refine zoc c_l ?_ ?_|refine zoc c_v ?_ ?_|refine zoc c_f ?_ ?_|refine zoc c_b ?_ ?_|refine zoc c_w ?_ ?_|fail)|((first|omega|contradiction);done))
  all_goals skip
theorem c_Boards_bad (d t k n:Int) (h0:logE d t k≠0∨n < 1∨64 < n):Ax.Pure Tryz.prog G 38 [N d,N t,N k,N n] (.tup [L64 [],N 3]):=by
  have hw:=logE_or d t k
  have c_l:=c_checkLog d t k
  have fin:Ax.Sub (.tup [.one (.v (.slice none 0 0)),N 3]) (.tup [L64 [],N 3]):=sub_tup2 sub_nil (Sub.refl _)
  by_cases hL:logE d t k=0
  · rw [hL] at c_l
    have c_f:=c_first2 0 3
    rw [if_pos rfl] at c_f
    by_cases hn:n < 1
    · have c_w:=c_nwhen true 3
      rw [if_pos rfl] at c_w
      refine zen Tryz.func38 rfl Tryz.ntmps38 ?_
      intro w0 E0 hc
      repeat' (first|refine zR1 hc Tryz.results38 ?_|(with_reducible first|exact trivial|refine zan ?_ ?_|refine zim (fun h=>?_)|refine zoc c_l ?_ ?_|refine zoc c_w ?_ ?_|refine zoc c_f ?_ ?_|fail)|((first|omega|contradiction);done))
      all_goals exact fin
    · have c_w:=c_nwhen (decide (64 < n)) 3
      rw [if_pos (decide_eq_true (by omega))] at c_w
      refine zen Tryz.func38 rfl Tryz.ntmps38 ?_
      intro w0 E0 hc
      repeat' (first|refine zR1 hc Tryz.results38 ?_|(with_reducible first|exact trivial|refine zan ?_ ?_|refine zim (fun h=>?_)|refine zoc c_l ?_ ?_|refine zoc c_w ?_ ?_|refine zoc c_f ?_ ?_|fail)|((first|omega|contradiction);done))
      all_goals exact fin
  · rw [hw.resolve_left hL] at c_l
    have c_f:∀b,Ax.Pure Tryz.prog G 95 [rw2 3 b] (N 3):=fun b=>by
      have:=c_first2 3 b
      rwa [if_neg (by decide)] at this
    refine zen Tryz.func38 rfl Tryz.ntmps38 ?_
    intro w0 E0 hc
    repeat' (first|refine zR1 hc Tryz.results38 ?_|(with_reducible first|exact trivial|refine zan ?_ ?_|refine zim (fun h=>?_)|refine zoc c_l ?_ ?_|refine zoc (c_nwhen _ _) ?_ ?_|refine zoc (c_f _) ?_ ?_|fail)|((first|omega|contradiction);done))
    all_goals exact fin
end Go.Proofs
end
