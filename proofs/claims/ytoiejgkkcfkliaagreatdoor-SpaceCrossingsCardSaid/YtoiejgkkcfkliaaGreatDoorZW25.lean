/- Lemmas on the program and its library: part ZW25. -/
import Derived.Test.YtoiejgkkcfkliaaGreatDoorZW24
set_option linter.unusedVariables false
set_option linter.unusedSimpArgs false
section
set_option maxHeartbeats 4000000
set_option maxRecDepth 100000
namespace Go.Proofs
open Go.Ax
theorem c_Check (l:List UInt8) (hl:l.length≤900000):Ax.Pure Tryz.prog G 20 [S (bs l)] (N (checkL l)):=by
  obtain ⟨h1,h2,h3⟩:=mkT_parts l
  have h:=c_CheckT (isNeg l) (upTo 47 (unsig l)) (behind 47 (unsig l)) h2 h3 (by rw [←h1];exact hl)
  rw [←h1] at h
  exact h
theorem c_when (b:Bool) (e:Int):Ax.Pure Tryz.prog G 153 [Bo b,N e] (N (if b=true then e else 0)):=by
  refine zen Tryz.func153 rfl Tryz.ntmps153 ?_
  intro w0 E0 hc
  cases b
  · repeat' (first|refine zR1 hc Tryz.results153 ?_|(with_reducible first|exact trivial|refine zan ?_ ?_|refine zim (fun h=>?_)|fail)|(omega;done))
    all_goals exact Sub.refl _
  · repeat' (first|refine zR1 hc Tryz.results153 ?_|(with_reducible first|exact trivial|refine zan ?_ ?_|refine zim (fun h=>?_)|fail)|(omega;done))
    all_goals exact Sub.refl _
theorem c_first (l:List Int) (hl:l.length≤1000000):Ax.Pure Tryz.prog G 143 [L64 l] (N (firstNZ l)):=by
  refine zen Tryz.func143 rfl Tryz.ntmps143 ?_
  intro w0 E0 hc
  repeat' (first|refine zR1 hc Tryz.results143 ?_|(with_reducible first|exact trivial|refine zan ?_ ?_|refine zim (fun h=>?_)|fail)|(omega;done))
  refine Wp_loopI (α:=Nat) (fun i=>stOf [(5,L64 l),(6,N l.length),(7,N i)] [] 0) (fun i=>i≤l.length∧firstNZ l=firstNZ (l.drop i)) (fun i=>l.length - i) 0 ⟨Nat.zero_le _,rfl⟩ ?_ ?_
  · refine zW1 ?_ <;> repeat' (with_reducible first|exact trivial|refine zan ?_ ?_|refine zal (fun i hi=>?_))
  · rintro i ⟨h1,h2⟩
    have hd:=fun h:i < l.length=>firstNZ_drop h
    repeat' (first|refine zR1 hc Tryz.results143 ?_|(with_reducible first|exact trivial|refine zan ?_ ?_|refine zim (fun h=>?_)|fail)|(omega;done))
    · have hd':=hd (by omega)
      rw [if_neg h] at hd'
      exact sub_eq (by rw [h2,hd'])
    · have hd':=hd (by omega)
      rw [if_pos h] at hd'
      refine ⟨i+1,⟨by omega,by rw [h2,hd']⟩,by omega,?_⟩
      refine zW1 ?_ <;> repeat' (with_reducible first|exact trivial|refine zan ?_ ?_|refine zal (fun i hi=>?_))
    · have:l.length≤i:=by omega
      rw [List.drop_eq_nil_of_le this] at h2
      exact sub_eq (by rw [h2];rfl)
theorem c_first2 (a b:Int):Ax.Pure Tryz.prog G 143 [.one (.row 1 2 (fun i=> [[Leaf.v (.int .i64 a)],[Leaf.v (.int .i64 b)]].getD i []))] (N (firstNZ [a,b])):=
  pure_args (c_first [a,b] (show 2≤1000000 by decide)) ⟨sub_row_list [a,b],trivial⟩ ⟨trivial,trivial⟩
theorem c_first3 (a b c:Int):Ax.Pure Tryz.prog G 143 [.one (.row 1 3 (fun i=> [[Leaf.v (.int .i64 a)],[Leaf.v (.int .i64 b)],[Leaf.v (.int .i64 c)]].getD i []))] (N (firstNZ [a,b,c])):=
  pure_args (c_first [a,b,c] (show 3≤1000000 by decide)) ⟨sub_row_list [a,b,c],trivial⟩ ⟨trivial,trivial⟩
theorem c_first4 (a b c d:Int):Ax.Pure Tryz.prog G 143 [.one (.row 1 4 (fun i=> [[Leaf.v (.int .i64 a)],[Leaf.v (.int .i64 b)],[Leaf.v (.int .i64 c)],[Leaf.v (.int .i64 d)]].getD i []))] (N (firstNZ [a,b,c,d])):=
  pure_args (c_first [a,b,c,d] (show 4≤1000000 by decide)) ⟨sub_row_list [a,b,c,d],trivial⟩ ⟨trivial,trivial⟩
def fstE (ls:List (List UInt8)):Int:=firstNZ (ls.map checkL)
theorem fstE_drop {ls:List (List UInt8)} {i:Nat} (h:i < ls.length):fstE (ls.drop i)=if checkL (ls.getD i [])=0 then fstE (ls.drop (i+1)) else checkL (ls.getD i []):=by
  have:=firstNZ_drop (l:=ls.map checkL) (k:=i) (by simpa using h)
  have e:(ls.map checkL).getD i 0=checkL (ls.getD i []):=by
    rw [List.getD_eq_getElem?_getD,List.getD_eq_getElem?_getD,List.getElem?_map,List.getElem?_eq_getElem h];rfl
  rw [e,←List.map_drop,←List.map_drop] at this
  exact this
theorem sub_row_eq {sz n:Nat} {g g':Nat→List Leaf} (h:∀i,i < n→g i=g' i):Ax.Sub (.one (.row sz n g)) (.one (.row sz n g')):=by
  rintro E w v ⟨_,h1⟩
  refine ⟨rfl,h1.imp id ?_⟩
  rintro ⟨b,o,c,q1,q2,q3,q4⟩
  exact ⟨b,o,c,q1,q2,q3,fun i hi=>h i hi ▸ q4 i hi⟩
abbrev rowT (ls:List (List UInt8)) (n:Nat):AV:=.one (.row 1 n (fun i=> [.v (.string (bs (ls.getD i [])))]))
theorem c_checkAll (ls:List (List UInt8)) (n:Nat) (hn:n=ls.length) (hl:∀l∈ls,l.length≤900000) (hl2:ls.length≤1000000):Ax.Pure Tryz.prog G 184 [rowT ls n] (N (fstE ls)):=by
  have c_c:∀i:Nat,i < ls.length→Ax.Pure Tryz.prog G 20 [S (bs (ls.getD i []))] (N (checkL (ls.getD i []))):=fun i hi=>
    c_Check _ (hl _ (by rw [List.getD_eq_getElem?_getD,List.getElem?_eq_getElem hi];exact List.getElem_mem hi))
  refine zen Tryz.func184 rfl Tryz.ntmps184 ?_
  intro w0 E0 hc
  repeat' (first|refine zR1 hc Tryz.results184 ?_|(with_reducible first|exact trivial|refine zan ?_ ?_|refine zim (fun h=>?_)|fail)|(omega;done))
  refine Wp_loopI (α:=Nat) (fun i=>stOf [(6,rowT ls n),(7,N n),(8,N i)] [] 0) (fun i=>i≤ls.length∧fstE ls=fstE (ls.drop i)) (fun i=>ls.length - i) 0 ⟨Nat.zero_le _,rfl⟩ ?_ ?_
  · refine zW1 ?_ <;> repeat' (with_reducible first|exact trivial|refine zan ?_ ?_|refine zal (fun i hi=>?_))
  · rintro i ⟨h1,h2⟩
    have hd:=fun h:i < ls.length=>fstE_drop h
    have c_ci:=c_c i
    repeat' (first|refine zR1 hc Tryz.results184 ?_|(with_reducible first|exact trivial|refine zan ?_ ?_|refine zim (fun h=>?_)|refine zoc (c_ci ?_) ?_ ?_|fail)|((first|omega|(simp only [Int.toNat_natCast];omega));done))
    · have hd':=hd (by omega)
      rw [if_neg h] at hd'
      exact sub_eq (by rw [h2,hd'])
    · have hd':=hd (by omega)
      rw [if_pos h] at hd'
      refine ⟨i+1,⟨by omega,by rw [h2,hd']⟩,by omega,?_⟩
      refine zW1 ?_ <;> repeat' (with_reducible first|exact trivial|refine zan ?_ ?_|refine zal (fun i hi=>?_))
    · have:ls.length≤i:=by omega
      rw [List.drop_eq_nil_of_le this] at h2
      exact sub_eq (by rw [h2];rfl)
theorem row2_lt {P:Nat→Prop} (h0:P 0) (h1:P 1):∀i,i < 2→P i:=fun i hi=>by
  rcases (by omega:i=0∨i=1) with rfl|rfl
  · exact h0
  · exact h1
theorem row3_lt {P:Nat→Prop} (h0:P 0) (h1:P 1) (h2:P 2):∀i,i < 3→P i:=fun i hi=>by
  rcases (by omega:i=0∨i=1∨i=2) with rfl|rfl|rfl
  · exact h0
  · exact h1
  · exact h2
theorem row4_lt {P:Nat→Prop} (h0:P 0) (h1:P 1) (h2:P 2) (h3:P 3):∀i,i < 4→P i:=fun i hi=>by
  rcases (by omega:i=0∨i=1∨i=2∨i=3) with rfl|rfl|rfl|rfl
  · exact h0
  · exact h1
  · exact h2
  · exact h3
theorem mem2 {P:List UInt8→Prop} {a b:List UInt8} (ha:P a) (hb:P b):∀l∈[a,b],P l:=fun l h=>by
  simp only [List.mem_cons,List.not_mem_nil,or_false] at h
  rcases h with rfl|rfl
  · exact ha
  · exact hb
theorem mem3 {P:List UInt8→Prop} {a b c:List UInt8} (ha:P a) (hb:P b) (hc:P c):∀l∈[a,b,c],P l:=fun l h=>by
  simp only [List.mem_cons,List.not_mem_nil,or_false] at h
  rcases h with rfl|rfl|rfl
  · exact ha
  · exact hb
  · exact hc
theorem mem4 {P:List UInt8→Prop} {a b c d:List UInt8} (ha:P a) (hb:P b) (hc:P c) (hd:P d):∀l∈[a,b,c,d],P l:=fun l h=>by
  simp only [List.mem_cons,List.not_mem_nil,or_false] at h
  rcases h with rfl|rfl|rfl|rfl
  · exact ha
  · exact hb
  · exact hc
  · exact hd
theorem c_checkAll2 (a b:List UInt8) (ha:a.length≤900000) (hb:b.length≤900000):Ax.Pure Tryz.prog G 184 [.one (.row 1 2 (fun i=> [[Leaf.v (.string (bs a))],[Leaf.v (.string (bs b))]].getD i []))] (N (fstE [a,b])):=
  pure_args (c_checkAll [a,b] 2 rfl (mem2 ha hb) (show 2≤1000000 by decide)) ⟨sub_row_eq (row2_lt rfl rfl),trivial⟩ ⟨trivial,trivial⟩
theorem c_checkAll3 (a b c:List UInt8) (ha:a.length≤900000) (hb:b.length≤900000) (hc:c.length≤900000):Ax.Pure Tryz.prog G 184 [.one (.row 1 3 (fun i=> [[Leaf.v (.string (bs a))],[Leaf.v (.string (bs b))],[Leaf.v (.string (bs c))]].getD i []))] (N (fstE [a,b,c])):=
  pure_args (c_checkAll [a,b,c] 3 rfl (mem3 ha hb hc) (show 3≤1000000 by decide)) ⟨sub_row_eq (row3_lt rfl rfl rfl),trivial⟩ ⟨trivial,trivial⟩
theorem c_checkAll4 (a b c d:List UInt8) (ha:a.length≤900000) (hb:b.length≤900000) (hc:c.length≤900000) (hd:d.length≤900000):Ax.Pure Tryz.prog G 184 [.one (.row 1 4 (fun i=> [[Leaf.v (.string (bs a))],[Leaf.v (.string (bs b))],[Leaf.v (.string (bs c))],[Leaf.v (.string (bs d))]].getD i []))] (N (fstE [a,b,c,d])):=
  pure_args (c_checkAll [a,b,c,d] 4 rfl (mem4 ha hb hc hd) (show 4≤1000000 by decide)) ⟨sub_row_eq (row4_lt rfl rfl rfl rfl),trivial⟩ ⟨trivial,trivial⟩
theorem c_CheckVec (a b c:List UInt8) (ha:a.length≤900000) (hb:b.length≤900000) (hc':c.length≤900000):Ax.Pure Tryz.prog G 109 [tV a b c] (N (fstE [a,b,c])):=by
  have c_c:=c_checkAll3 a b c ha hb hc'
  refine zen Tryz.func109 rfl Tryz.ntmps109 ?_
  intro w0 E0 hc
  repeat' (first|(with_reducible first|refine Wp_seq ?_|refine zwk ?_|refine Wp_block ?_|refine zgo ?_|refine zbn ?_|refine zge Tryz.results109 ?_|refine Sub.refl _|refine allP_nil|refine zoa1 (out':=?_) ?_|refine zca1 (y:=?_) ?_|refine zea1 (eo':=?_) ?_)|(with_reducible refine zrs [1] hc ?_ ?_;focus (with_unfolding_all rfl))|(with_reducible refine zrm [1] hc mixed ?_ ?_;focus (with_unfolding_all rfl))|(with_reducible refine allP_cons ?_ ?_;focus (first|decide|omega))|(with_reducible first|refine zg2 ?_ ?_|refine zbo ?_|refine zg3 ?_ (fun h=>?_) (fun h=>?_)|refine zg4 (fun h=>?_) (fun h=>?_)|fail)|(omega;done))
  refine Wp_frzP hc 0 (sz:=3) (ro:=false) (g:=fun _=> [.v (.string (bs a)),.v (.string (bs b)),.v (.string (bs c))]) (Is.refl _) ⟨trivial,trivial,trivial,trivial⟩ rfl ?_
  refine Wp_weaker (st':=stOf [(1,.one (.pp [.v (.string (bs a)),.v (.string (bs b)),.v (.string (bs c))]))] [] 1) ?_ ?_
  · refine zW1 ?_ <;> repeat' (with_reducible first|exact trivial|refine zan ?_ ?_|refine zal (fun i hi=>?_))
  repeat' (first|refine zR1 hc Tryz.results109 ?_|(with_reducible first|exact trivial|refine zan ?_ ?_|refine zim (fun h=>?_)|refine zoc c_c ?_ ?_|fail)|(omega;done))
abbrev V3:Type:=List UInt8×List UInt8×List UInt8
def fstVec (v:V3):Int:=fstE [v.1,v.2.1,v.2.2]
def fstVs (vs:List V3):Int:=firstNZ (vs.map fstVec)
theorem fstVs_drop {ls:List V3} {i:Nat} (h:i < ls.length):fstVs (ls.drop i)=if fstVec (ls.getD i ([],[],[]))=0 then fstVs (ls.drop (i+1)) else fstVec (ls.getD i ([],[],[])):=by
  have:=firstNZ_drop (l:=ls.map fstVec) (k:=i) (by simpa using h)
  have e:(ls.map fstVec).getD i 0=fstVec (ls.getD i ([],[],[])):=by
    rw [List.getD_eq_getElem?_getD,List.getD_eq_getElem?_getD,List.getElem?_map,List.getElem?_eq_getElem h];rfl
  rw [e,←List.map_drop,←List.map_drop] at this
  exact this
abbrev rowV (ls:List V3) (n:Nat):AV:=.one (.row 3 n (fun i=> [.v (.string (bs (ls.getD i ([],[],[])).1)),.v (.string (bs (ls.getD i ([],[],[])).2.1)),.v (.string (bs (ls.getD i ([],[],[])).2.2))]))
def shortV (v:V3):Prop:=v.1.length≤900000∧v.2.1.length≤900000∧v.2.2.length≤900000
theorem c_checkVecs (ls:List V3) (n:Nat) (hn:n=ls.length) (hl:∀l∈ls,shortV l) (hl2:ls.length≤1000000):Ax.Pure Tryz.prog G 194 [rowV ls n] (N (fstVs ls)):=by
  have c_c:∀i:Nat,i < ls.length→Ax.Pure Tryz.prog G 109 [tV (ls.getD i ([],[],[])).1 (ls.getD i ([],[],[])).2.1 (ls.getD i ([],[],[])).2.2] (N (fstVec (ls.getD i ([],[],[])))):=fun i hi=>by
    have h:=hl (ls.getD i ([],[],[])) (by rw [List.getD_eq_getElem?_getD,List.getElem?_eq_getElem hi];exact List.getElem_mem hi)
    exact c_CheckVec _ _ _ h.1 h.2.1 h.2.2
  refine zen Tryz.func194 rfl Tryz.ntmps194 ?_
  intro w0 E0 hc
  repeat' (first|refine zR1 hc Tryz.results194 ?_|(with_reducible first|exact trivial|refine zan ?_ ?_|refine zim (fun h=>?_)|fail)|(omega;done))
  refine Wp_loopI (α:=Nat) (fun i=>stOf [(6,rowV ls n),(7,N n),(8,N i)] [] 0) (fun i=>i≤ls.length∧fstVs ls=fstVs (ls.drop i)) (fun i=>ls.length - i) 0 ⟨Nat.zero_le _,rfl⟩ ?_ ?_
  · refine zW1 ?_ <;> repeat' (with_reducible first|exact trivial|refine zan ?_ ?_|refine zal (fun i hi=>?_))
  · rintro i ⟨h1,h2⟩
    have hd:=fun h:i < ls.length=>fstVs_drop h
    have c_ci:=c_c i
    repeat' (first|refine zR1 hc Tryz.results194 ?_|(with_reducible first|exact trivial|refine zan ?_ ?_|refine zim (fun h=>?_)|refine zoc (c_ci ?_) ?_ ?_|fail)|((first|omega|(simp only [Int.toNat_natCast];omega));done))
    · have hd':=hd (by omega)
      rw [if_neg h] at hd'
      exact sub_eq (by rw [h2,hd'])
    · have hd':=hd (by omega)
      rw [if_pos h] at hd'
      refine ⟨i+1,⟨by omega,by rw [h2,hd']⟩,by omega,?_⟩
      refine zW1 ?_ <;> repeat' (with_reducible first|exact trivial|refine zan ?_ ?_|refine zal (fun i hi=>?_))
    · have:ls.length≤i:=by omega
      rw [List.drop_eq_nil_of_le this] at h2
      exact sub_eq (by rw [h2];rfl)
def txl (b:Bool) (q:Rat):List UInt8:=if b=true then [] else ratL q
def exl (b:Bool):Int:=if b=true then 4 else 0
theorem c_give {k:Nat} (hk:k≤1000000) (q:Rat) (hq:Q k q):Ax.Pure Tryz.prog G 130 [fracA q] (.tup [S (bs (txl (bigQ q) q)),N (exl (bigQ q))]):=by
  have c_l:=c_FLarge hk q hq
  have c_t:=c_FText hk q hq
  refine zen Tryz.func130 rfl Tryz.ntmps130 ?_
  intro w0 E0 hc
  cases h:bigQ q <;> rw [h] at c_l
  · repeat' (first|refine zR1 hc Tryz.results130 ?_|(with_reducible first|exact trivial|refine zan ?_ ?_|refine zim (fun h=>?_)|refine zoc c_l ?_ ?_|refine zoc c_t ?_ ?_|fail)|(omega;done))
    all_goals exact Sub.refl _
  · repeat' (first|refine zR1 hc Tryz.results130 ?_|(with_reducible first|exact trivial|refine zan ?_ ?_|refine zim (fun h=>?_)|refine zoc c_l ?_ ?_|fail)|(omega;done))
    all_goals exact Sub.refl _
theorem c_giveVec {k:Nat} (hk:k≤1000000) (a b c:Rat) (hq:Q k a∧Q k b∧Q k c):Ax.Pure Tryz.prog G 167 [vA a b c] (.tup [tV (txl (bigV a b c) a) (txl (bigV a b c) b) (txl (bigV a b c) c),N (exl (bigV a b c))]):=by
  have c_l:=c_VLarge hk a b c hq
  have c_t:=c_VText hk a b c hq
  refine zen Tryz.func167 rfl Tryz.ntmps167 ?_
  intro w0 E0 hc
  cases h:bigV a b c <;> rw [h] at c_l
  · repeat' (first|refine zR1 hc Tryz.results167 ?_|(with_reducible first|exact trivial|refine zan ?_ ?_|refine zim (fun h=>?_)|refine zoc c_l ?_ ?_|refine zoc c_t ?_ ?_|fail)|(omega;done))
    all_goals exact Sub.refl _
  · repeat' (first|refine zR1 hc Tryz.results167 ?_|(with_reducible first|exact trivial|refine zan ?_ ?_|refine zim (fun h=>?_)|refine zoc c_l ?_ ?_|fail)|(omega;done))
    all_goals exact Sub.refl _
end Go.Proofs
end
