/- Lemmas on the program and its library: part ZW25. -/
import Derived.Test.YtoiejgkkcfkliaaGreatDoorZW24
set_option linter.unusedVariables false
set_option linter.unusedSimpArgs false
section
set_option maxHeartbeats 4000000
set_option maxRecDepth 100000
namespace Go.Proofs
open Go.Ax
theorem b4k (l:List UInt8) (hl:l.length≤900000):Ax.Pure Tryz.prog G 20 [S (bs l)] (N (a0a l)):=by
  obtain ⟨h1,h2,h3⟩:=b2c l
  have h:=d4t (a4o l) (a1q 47 (a0m l)) (a2o 47 (a0m l)) h2 h3 (by rw [←h1];exact hl)
  rw [←h1] at h
  exact h
theorem a91 (b:Bool) (e:Int):Ax.Pure Tryz.prog G 153 [Bo b,N e] (N (if b=true then e else 0)):=by
  refine r8 Tryz.func153 rfl Tryz.ntmps153 ?_
  intro w0 E0 hc
  cases b
  · repeat' (first|refine n7 hc Tryz.results153 ?_|(with_reducible first|exact trivial|refine j3 ?_ ?_|refine m8 (fun h=>?_)|fail)|(omega;done))
    all_goals exact Sub.refl _
  · repeat' (first|refine n7 hc Tryz.results153 ?_|(with_reducible first|exact trivial|refine j3 ?_ ?_|refine m8 (fun h=>?_)|fail)|(omega;done))
    all_goals exact Sub.refl _
theorem c3i (l:List Int) (hl:l.length≤1000000):Ax.Pure Tryz.prog G 143 [L64 l] (N (u5 l)):=by
  refine r8 Tryz.func143 rfl Tryz.ntmps143 ?_
  intro w0 E0 hc
  repeat' (first|refine n7 hc Tryz.results143 ?_|(with_reducible first|exact trivial|refine j3 ?_ ?_|refine m8 (fun h=>?_)|fail)|(omega;done))
  refine m9 (α:=Nat) (fun i=>n5 [(5,L64 l),(6,N l.length),(7,N i)] [] 0) (fun i=>i≤l.length∧u5 l=u5 (l.drop i)) (fun i=>l.length - i) 0 ⟨Nat.zero_le _,rfl⟩ ?_ ?_
  · refine zW1 ?_ <;> repeat' (with_reducible first|exact trivial|refine j3 ?_ ?_|refine t7 (fun i hi=>?_))
  · rintro i ⟨h1,h2⟩
    have hd:=fun h:i < l.length=>a4n h
    repeat' (first|refine n7 hc Tryz.results143 ?_|(with_reducible first|exact trivial|refine j3 ?_ ?_|refine m8 (fun h=>?_)|fail)|(omega;done))
    · have hd':=hd (by omega)
      rw [if_neg h] at hd'
      exact j6 (by rw [h2,hd'])
    · have hd':=hd (by omega)
      rw [if_pos h] at hd'
      refine ⟨i+1,⟨by omega,by rw [h2,hd']⟩,by omega,?_⟩
      refine zW1 ?_ <;> repeat' (with_reducible first|exact trivial|refine j3 ?_ ?_|refine t7 (fun i hi=>?_))
    · have:l.length≤i:=by omega
      rw [List.drop_eq_nil_of_le this] at h2
      exact j6 (by rw [h2];rfl)
theorem a4l (a b:Int):Ax.Pure Tryz.prog G 143 [.one (.row 1 2 (fun i=> [[i7.v (.int .i64 a)],[i7.v (.int .i64 b)]].getD i []))] (N (u5 [a,b])):=
  w8 (c3i [a,b] (show 2≤1000000 by decide)) ⟨a3p [a,b],trivial⟩ ⟨trivial,trivial⟩
theorem d5j (a b c:Int):Ax.Pure Tryz.prog G 143 [.one (.row 1 3 (fun i=> [[i7.v (.int .i64 a)],[i7.v (.int .i64 b)],[i7.v (.int .i64 c)]].getD i []))] (N (u5 [a,b,c])):=
  w8 (c3i [a,b,c] (show 3≤1000000 by decide)) ⟨a3p [a,b,c],trivial⟩ ⟨trivial,trivial⟩
theorem d5k (a b c d:Int):Ax.Pure Tryz.prog G 143 [.one (.row 1 4 (fun i=> [[i7.v (.int .i64 a)],[i7.v (.int .i64 b)],[i7.v (.int .i64 c)],[i7.v (.int .i64 d)]].getD i []))] (N (u5 [a,b,c,d])):=
  w8 (c3i [a,b,c,d] (show 4≤1000000 by decide)) ⟨a3p [a,b,c,d],trivial⟩ ⟨trivial,trivial⟩
def a1e (ls:List (List UInt8)):Int:=u5 (ls.map a0a)
theorem c10 {ls:List (List UInt8)} {i:Nat} (h:i < ls.length):a1e (ls.drop i)=if a0a (ls.getD i [])=0 then a1e (ls.drop (i+1)) else a0a (ls.getD i []):=by
  have:=a4n (l:=ls.map a0a) (k:=i) (by simpa using h)
  have e:(ls.map a0a).getD i 0=a0a (ls.getD i []):=by
    rw [List.getD_eq_getElem?_getD,List.getD_eq_getElem?_getD,List.getElem?_map,List.getElem?_eq_getElem h];rfl
  rw [e,←List.map_drop,←List.map_drop] at this
  exact this
theorem a1t {sz n:Nat} {g g':Nat→List i7} (h:∀i,i < n→g i=g' i):Ax.Sub (.one (.row sz n g)) (.one (.row sz n g')):=by
  rintro E w v ⟨_,h1⟩
  refine ⟨rfl,h1.imp id ?_⟩
  rintro ⟨b,o,c,q1,q2,q3,q4⟩
  exact ⟨b,o,c,q1,q2,q3,fun i hi=>h i hi ▸ q4 i hi⟩
abbrev rowT (ls:List (List UInt8)) (n:Nat):AV:=.one (.row 1 n (fun i=> [.v (.string (bs (ls.getD i [])))]))
theorem b3q (ls:List (List UInt8)) (n:Nat) (hn:n=ls.length) (hl:∀l∈ls,l.length≤900000) (hl2:ls.length≤1000000):Ax.Pure Tryz.prog G 184 [rowT ls n] (N (a1e ls)):=by
  have c_c:∀i:Nat,i < ls.length→Ax.Pure Tryz.prog G 20 [S (bs (ls.getD i []))] (N (a0a (ls.getD i []))):=fun i hi=>
    b4k _ (hl _ (by rw [List.getD_eq_getElem?_getD,List.getElem?_eq_getElem hi];exact List.getElem_mem hi))
  refine r8 Tryz.func184 rfl Tryz.ntmps184 ?_
  intro w0 E0 hc
  repeat' (first|refine n7 hc Tryz.results184 ?_|(with_reducible first|exact trivial|refine j3 ?_ ?_|refine m8 (fun h=>?_)|fail)|(omega;done))
  refine m9 (α:=Nat) (fun i=>n5 [(6,rowT ls n),(7,N n),(8,N i)] [] 0) (fun i=>i≤ls.length∧a1e ls=a1e (ls.drop i)) (fun i=>ls.length - i) 0 ⟨Nat.zero_le _,rfl⟩ ?_ ?_
  · refine zW1 ?_ <;> repeat' (with_reducible first|exact trivial|refine j3 ?_ ?_|refine t7 (fun i hi=>?_))
  · rintro i ⟨h1,h2⟩
    have hd:=fun h:i < ls.length=>c10 h
    have c_ci:=c_c i
    repeat' (first|refine n7 hc Tryz.results184 ?_|(with_reducible first|exact trivial|refine j3 ?_ ?_|refine m8 (fun h=>?_)|refine c9 (c_ci ?_) ?_ ?_|fail)|((first|omega|(simp only [Int.toNat_natCast];omega));done))
    · have hd':=hd (by omega)
      rw [if_neg h] at hd'
      exact j6 (by rw [h2,hd'])
    · have hd':=hd (by omega)
      rw [if_pos h] at hd'
      refine ⟨i+1,⟨by omega,by rw [h2,hd']⟩,by omega,?_⟩
      refine zW1 ?_ <;> repeat' (with_reducible first|exact trivial|refine j3 ?_ ?_|refine t7 (fun i hi=>?_))
    · have:ls.length≤i:=by omega
      rw [List.drop_eq_nil_of_le this] at h2
      exact j6 (by rw [h2];rfl)
theorem d09 {P:Nat→Prop} (h0:P 0) (h1:P 1):∀i,i < 2→P i:=fun i hi=>by
  rcases (by omega:i=0∨i=1) with rfl|rfl
  · exact h0
  · exact h1
theorem b8u {P:Nat→Prop} (h0:P 0) (h1:P 1) (h2:P 2):∀i,i < 3→P i:=fun i hi=>by
  rcases (by omega:i=0∨i=1∨i=2) with rfl|rfl|rfl
  · exact h0
  · exact h1
  · exact h2
theorem b5k {P:Nat→Prop} (h0:P 0) (h1:P 1) (h2:P 2) (h3:P 3):∀i,i < 4→P i:=fun i hi=>by
  rcases (by omega:i=0∨i=1∨i=2∨i=3) with rfl|rfl|rfl|rfl
  · exact h0
  · exact h1
  · exact h2
  · exact h3
theorem mem2 {P:List UInt8→Prop} {a b:List UInt8} (ha:P a) (hb:P b):∀l∈[a,b],P l:=fun l h=>by
  simp only [List.mem_cons,List.not_mem_nil,or_false] at h
  rcases h with rfl|rfl
  · exact ha
  · exact hb
theorem mem3 {P:List UInt8→Prop} {a b c:List UInt8} (ha:P a) (hb:P b) (hc:P c):∀l∈[a,b,c],P l:=fun l h=>by
  simp only [List.mem_cons,List.not_mem_nil,or_false] at h
  rcases h with rfl|rfl|rfl
  · exact ha
  · exact hb
  · exact hc
theorem mem4 {P:List UInt8→Prop} {a b c d:List UInt8} (ha:P a) (hb:P b) (hc:P c) (hd:P d):∀l∈[a,b,c,d],P l:=fun l h=>by
  simp only [List.mem_cons,List.not_mem_nil,or_false] at h
  rcases h with rfl|rfl|rfl|rfl
  · exact ha
  · exact hb
  · exact hc
  · exact hd
theorem a3a (a b:List UInt8) (ha:a.length≤900000) (hb:b.length≤900000):Ax.Pure Tryz.prog G 184 [.one (.row 1 2 (fun i=> [[i7.v (.string (bs a))],[i7.v (.string (bs b))]].getD i []))] (N (a1e [a,b])):=
  w8 (b3q [a,b] 2 rfl (mem2 ha hb) (show 2≤1000000 by decide)) ⟨a1t (d09 rfl rfl),trivial⟩ ⟨trivial,trivial⟩
theorem c51 (a b c:List UInt8) (ha:a.length≤900000) (hb:b.length≤900000) (hc:c.length≤900000):Ax.Pure Tryz.prog G 184 [.one (.row 1 3 (fun i=> [[i7.v (.string (bs a))],[i7.v (.string (bs b))],[i7.v (.string (bs c))]].getD i []))] (N (a1e [a,b,c])):=
  w8 (b3q [a,b,c] 3 rfl (mem3 ha hb hc) (show 3≤1000000 by decide)) ⟨a1t (b8u rfl rfl rfl),trivial⟩ ⟨trivial,trivial⟩
theorem a7n (a b c d:List UInt8) (ha:a.length≤900000) (hb:b.length≤900000) (hc:c.length≤900000) (hd:d.length≤900000):Ax.Pure Tryz.prog G 184 [.one (.row 1 4 (fun i=> [[i7.v (.string (bs a))],[i7.v (.string (bs b))],[i7.v (.string (bs c))],[i7.v (.string (bs d))]].getD i []))] (N (a1e [a,b,c,d])):=
  w8 (b3q [a,b,c,d] 4 rfl (mem4 ha hb hc hd) (show 4≤1000000 by decide)) ⟨a1t (b5k rfl rfl rfl rfl),trivial⟩ ⟨trivial,trivial⟩
theorem b9c (a b c:List UInt8) (ha:a.length≤900000) (hb:b.length≤900000) (hc':c.length≤900000):Ax.Pure Tryz.prog G 109 [tV a b c] (N (a1e [a,b,c])):=by
  have c_c:=c51 a b c ha hb hc'
  refine r8 Tryz.func109 rfl Tryz.ntmps109 ?_
  intro w0 E0 hc
  repeat' (first|(with_reducible first|refine j0 ?_|refine zwk ?_|refine i6 ?_|refine zgo ?_|refine zbn ?_|refine zge Tryz.results109 ?_|refine Sub.refl _|refine f9|refine w6 (out':=?_) ?_|refine u9 (y:=?_) ?_|refine w5 (eo':=?_) ?_)|(with_reducible refine zrs [1] hc ?_ ?_;focus (with_unfolding_all rfl))|(with_reducible refine zrm [1] hc mixed ?_ ?_;focus (with_unfolding_all rfl))|(with_reducible refine f6 ?_ ?_;focus (first|decide|omega))|(with_reducible first|refine zg2 ?_ ?_|refine zbo ?_|refine zg3 ?_ (fun h=>?_) (fun h=>?_)|refine zg4 (fun h=>?_) (fun h=>?_)|fail)|(omega;done))
  refine a05 hc 0 (sz:=3) (ro:=false) (g:=fun _=> [.v (.string (bs a)),.v (.string (bs b)),.v (.string (bs c))]) (Is.refl _) ⟨trivial,trivial,trivial,trivial⟩ rfl ?_
  refine m7 (st':=n5 [(1,.one (.pp [.v (.string (bs a)),.v (.string (bs b)),.v (.string (bs c))]))] [] 1) ?_ ?_
  · refine zW1 ?_ <;> repeat' (with_reducible first|exact trivial|refine j3 ?_ ?_|refine t7 (fun i hi=>?_))
  repeat' (first|refine n7 hc Tryz.results109 ?_|(with_reducible first|exact trivial|refine j3 ?_ ?_|refine m8 (fun h=>?_)|refine c9 c_c ?_ ?_|fail)|(omega;done))
abbrev V3:Type:=List UInt8×List UInt8×List UInt8
def a19 (v:V3):Int:=a1e [v.1,v.2.1,v.2.2]
def a3e (vs:List V3):Int:=u5 (vs.map a19)
theorem b9r {ls:List V3} {i:Nat} (h:i < ls.length):a3e (ls.drop i)=if a19 (ls.getD i ([],[],[]))=0 then a3e (ls.drop (i+1)) else a19 (ls.getD i ([],[],[])):=by
  have:=a4n (l:=ls.map a19) (k:=i) (by simpa using h)
  have e:(ls.map a19).getD i 0=a19 (ls.getD i ([],[],[])):=by
    rw [List.getD_eq_getElem?_getD,List.getD_eq_getElem?_getD,List.getElem?_map,List.getElem?_eq_getElem h];rfl
  rw [e,←List.map_drop,←List.map_drop] at this
  exact this
abbrev c66 (ls:List V3) (n:Nat):AV:=.one (.row 3 n (fun i=> [.v (.string (bs (ls.getD i ([],[],[])).1)),.v (.string (bs (ls.getD i ([],[],[])).2.1)),.v (.string (bs (ls.getD i ([],[],[])).2.2))]))
def u7 (v:V3):Prop:=v.1.length≤900000∧v.2.1.length≤900000∧v.2.2.length≤900000
theorem b05 (ls:List V3) (n:Nat) (hn:n=ls.length) (hl:∀l∈ls,u7 l) (hl2:ls.length≤1000000):Ax.Pure Tryz.prog G 194 [c66 ls n] (N (a3e ls)):=by
  have c_c:∀i:Nat,i < ls.length→Ax.Pure Tryz.prog G 109 [tV (ls.getD i ([],[],[])).1 (ls.getD i ([],[],[])).2.1 (ls.getD i ([],[],[])).2.2] (N (a19 (ls.getD i ([],[],[])))):=fun i hi=>by
    have h:=hl (ls.getD i ([],[],[])) (by rw [List.getD_eq_getElem?_getD,List.getElem?_eq_getElem hi];exact List.getElem_mem hi)
    exact b9c _ _ _ h.1 h.2.1 h.2.2
  refine r8 Tryz.func194 rfl Tryz.ntmps194 ?_
  intro w0 E0 hc
  repeat' (first|refine n7 hc Tryz.results194 ?_|(with_reducible first|exact trivial|refine j3 ?_ ?_|refine m8 (fun h=>?_)|fail)|(omega;done))
  refine m9 (α:=Nat) (fun i=>n5 [(6,c66 ls n),(7,N n),(8,N i)] [] 0) (fun i=>i≤ls.length∧a3e ls=a3e (ls.drop i)) (fun i=>ls.length - i) 0 ⟨Nat.zero_le _,rfl⟩ ?_ ?_
  · refine zW1 ?_ <;> repeat' (with_reducible first|exact trivial|refine j3 ?_ ?_|refine t7 (fun i hi=>?_))
  · rintro i ⟨h1,h2⟩
    have hd:=fun h:i < ls.length=>b9r h
    have c_ci:=c_c i
    repeat' (first|refine n7 hc Tryz.results194 ?_|(with_reducible first|exact trivial|refine j3 ?_ ?_|refine m8 (fun h=>?_)|refine c9 (c_ci ?_) ?_ ?_|fail)|((first|omega|(simp only [Int.toNat_natCast];omega));done))
    · have hd':=hd (by omega)
      rw [if_neg h] at hd'
      exact j6 (by rw [h2,hd'])
    · have hd':=hd (by omega)
      rw [if_pos h] at hd'
      refine ⟨i+1,⟨by omega,by rw [h2,hd']⟩,by omega,?_⟩
      refine zW1 ?_ <;> repeat' (with_reducible first|exact trivial|refine j3 ?_ ?_|refine t7 (fun i hi=>?_))
    · have:ls.length≤i:=by omega
      rw [List.drop_eq_nil_of_le this] at h2
      exact j6 (by rw [h2];rfl)
def txl (b:Bool) (q:Rat):List UInt8:=if b=true then [] else c5 q
def exl (b:Bool):Int:=if b=true then 4 else 0
theorem c3k {k:Nat} (hk:k≤1000000) (q:Rat) (hq:Q k q):Ax.Pure Tryz.prog G 130 [a0h q] (.tup [S (bs (txl (y4 q) q)),N (exl (y4 q))]):=by
  have c_l:=b02 hk q hq
  have c_t:=b4l hk q hq
  refine r8 Tryz.func130 rfl Tryz.ntmps130 ?_
  intro w0 E0 hc
  cases h:y4 q <;> rw [h] at c_l
  · repeat' (first|refine n7 hc Tryz.results130 ?_|(with_reducible first|exact trivial|refine j3 ?_ ?_|refine m8 (fun h=>?_)|refine c9 c_l ?_ ?_|refine c9 c_t ?_ ?_|fail)|(omega;done))
    all_goals exact Sub.refl _
  · repeat' (first|refine n7 hc Tryz.results130 ?_|(with_reducible first|exact trivial|refine j3 ?_ ?_|refine m8 (fun h=>?_)|refine c9 c_l ?_ ?_|fail)|(omega;done))
    all_goals exact Sub.refl _
theorem b6k {k:Nat} (hk:k≤1000000) (a b c:Rat) (hq:Q k a∧Q k b∧Q k c):Ax.Pure Tryz.prog G 167 [vA a b c] (.tup [tV (txl (a1i a b c) a) (txl (a1i a b c) b) (txl (a1i a b c) c),N (exl (a1i a b c))]):=by
  have c_l:=b04 hk a b c hq
  have c_t:=b4r hk a b c hq
  refine r8 Tryz.func167 rfl Tryz.ntmps167 ?_
  intro w0 E0 hc
  cases h:a1i a b c <;> rw [h] at c_l
  · repeat' (first|refine n7 hc Tryz.results167 ?_|(with_reducible first|exact trivial|refine j3 ?_ ?_|refine m8 (fun h=>?_)|refine c9 c_l ?_ ?_|refine c9 c_t ?_ ?_|fail)|(omega;done))
    all_goals exact Sub.refl _
  · repeat' (first|refine n7 hc Tryz.results167 ?_|(with_reducible first|exact trivial|refine j3 ?_ ?_|refine m8 (fun h=>?_)|refine c9 c_l ?_ ?_|fail)|(omega;done))
    all_goals exact Sub.refl _
end Go.Proofs
end
