/- Lemmas on the program and its library: part Z25. -/
import Derived.Test.YtoiejgkkcfkliaaGreatDoorZ18
set_option linter.unusedVariables false
set_option linter.unusedSimpArgs false
section
set_option maxHeartbeats 4000000
set_option maxRecDepth 100000
namespace Go.Proofs
open Go.Ax
abbrev BR:Nat:=1000000000
abbrev D (l:List Nat):AV:=.one (.ints .i64 (y7 l))
theorem d9r (l m:List Nat):y7 (l++m)=y7 l++y7 m:=List.map_append
theorem a5y (l:List Nat) {d:Nat} {X:Int} (h:X=d):y7 l++ [X]=y7 (l++ [d]):=by rw [d9r,h];rfl
theorem d1h {k:IntKind} {l:List Int} {m:List Nat} (h:l=y7 m):Ax.Sub (.one (.ints k l)) (.one (.ints k (y7 m))):=h ▸ Sub.refl _
theorem c0q {t:List Nat} (h:0 < t.length) (h0:t.getD (t.length - 1) 0=0):a04 (t.take (t.length - 1))=a04 t:=by
  have:=c0t (l:=t) (j:=t.length - 1) (by omega) h0
  rw [show t.length - 1+1=t.length by omega,List.take_length] at this
  exact this.symm
theorem c0s {t:List Nat} (h:t.length=0∨t.getD (t.length - 1) 0≠0):a04 t=t:=by
  by_cases h0:t.length=0
  · rw [List.length_eq_zero_iff.1 h0];rfl
  · have:=c0r (l:=t) (j:=t.length - 1) (by omega) (h.resolve_left h0)
    rwa [show t.length - 1+1=t.length by omega,List.take_length] at this
theorem b1n (l:List Nat) (hl:l.length≤4611686018427387904):Ax.Pure Tryz.prog G 256 [D l] (D (a04 l)):=by
  refine r8 Tryz.func256 rfl Tryz.ntmps256 ?_
  intro w0 E0 hc
  repeat' (first|refine n7 hc Tryz.results256 ?_|(with_reducible first|exact trivial|refine j3 ?_ ?_|refine m8 (fun h=>?_)|fail))
  refine a9b (ι:={ t:List Nat // t.length≤l.length∧a04 t=a04 l }) (fun t=>n5 [(0,D t.1)] [] 0) (fun t=>t.1.length) ⟨l,Nat.le_refl _,rfl⟩ ?_ ?_
  · refine zW2 ?_ <;> repeat' (with_reducible first|exact trivial|refine j3 ?_ ?_|refine t7 (fun i hi=>?_))
  · rintro ⟨t,hk,ht⟩
    have ll:=m5 t
    have w1:0 < t.length→IntKind.i64.wrap (((y7 t).length:Int) - 1)=((t.length - 1:Nat):Int):=fun h=>by rw [w64] <;> omega
    repeat' (first|refine n7 hc Tryz.results256 ?_|(with_reducible first|exact trivial|refine j3 ?_ ?_|refine m8 (fun h=>?_)|fail)|((first|omega|(rw [w1 (by omega)];omega));done))
    · rename_i h0
      rw [w1 (by omega),Int.toNat_natCast,r7] at h
      refine ⟨⟨t.take (t.length - 1),?_,?_⟩,?_,?_⟩
      · rw [List.length_take];omega
      · rw [←ht];exact c0q (by omega) (by omega)
      · refine zW2 ?_ <;> repeat' (with_reducible first|exact trivial|refine j3 ?_ ?_|refine t7 (fun i hi=>?_))
        refine d1h ?_
        rw [w1 (by omega),Int.toNat_natCast,List.drop_zero,Nat.sub_zero,c0p]
      · show (t.take _).length < t.length
        rw [List.length_take];omega
    · rename_i h0
      rw [w1 (by omega),Int.toNat_natCast,r7] at h
      exact j6 (by rw [←ht,c0s (.inr (by omega))])
    · exact j6 (by rw [←ht,c0s (.inl (by omega))])
theorem d97 (x y:List Nat) (hx:Dig BR x) (hy:Dig BR y) (lx:x.length≤4611686018427387904):Ax.Pure Tryz.prog G 226 [D x,D y] (N (a5v (val BR x) (val BR y))):=by
  refine r8 Tryz.func226 rfl Tryz.ntmps226 ?_
  intro w0 E0 hc
  repeat' (first|refine n7 hc Tryz.results226 ?_|(with_reducible first|exact trivial|refine j3 ?_ ?_|refine m8 (fun h=>?_)|fail))
  · rw [m5,m5] at h
    have:=a93 (by decide) hx hy (by omega)
    exact j6 (by rw [a5v,if_pos this])
  · rename_i h0
    rw [m5,m5] at h h0
    have:=a93 (by decide) hy hx (by omega)
    exact j6 (by rw [a5v,if_neg (by omega),if_pos this])
  rw [m5,m5] at h
  have hl:x.length=y.length:=by omega
  refine a9b (ι:={ k:Nat // k≤x.length∧x.drop k=y.drop k }) (fun k=>n5 [(0,D x),(1,D y),(5,N ((k.1:Int) - 1))] [] 0) (fun k=>k.1) ⟨x.length,Nat.le_refl _,by rw [List.drop_length,hl,List.drop_length]⟩ ?_ ?_
  · refine zW2 ?_ <;> repeat' (with_reducible first|exact trivial|refine j3 ?_ ?_|refine t7 (fun i hi=>?_))
    rw [m5,w64 (by omega) (by omega)]
  · clear h
    rintro ⟨k,hk,he⟩
    have gx:0 < k→(y7 x).getD ((k:Int) - 1).toNat 0=((x.getD (k - 1) 0:Nat):Int):=fun h=>by rw [r7];congr 2;omega
    have gy:0 < k→(y7 y).getD ((k:Int) - 1).toNat 0=((y.getD (k - 1) 0:Nat):Int):=fun h=>by rw [r7];congr 2;omega
    have lx':=m5 x
    have ly':=m5 y
    repeat' (first|refine n7 hc Tryz.results226 ?_|(with_reducible first|exact trivial|refine j3 ?_ ?_|refine m8 (fun h=>?_)|fail)|(omega;done))
    · rw [gx (by omega),gy (by omega)] at h
      have:=c3p hx.lt hl (k:=k - 1) (by omega) (by rw [show k - 1+1=k by omega];exact he) (by omega)
      exact j6 (by rw [a5v,if_pos this])
    · rename_i h1
      rw [gx (by omega),gy (by omega)] at h h1
      have:=c3p hy.lt hl.symm (k:=k - 1) (by omega) (by rw [show k - 1+1=k by omega];exact he.symm) (by omega)
      exact j6 (by rw [a5v,if_neg (by omega),if_pos this])
    · rw [gx (by omega),gy (by omega)] at h
      rename_i h1
      rw [gx (by omega),gy (by omega)] at h1
      refine ⟨⟨k - 1,by omega,b4y (by omega) hl (by rw [show k - 1+1=k by omega];exact he) (by omega)⟩,?_,?_⟩
      · refine zW2 ?_ <;> repeat' (with_reducible first|exact trivial|refine j3 ?_ ?_|refine t7 (fun i hi=>?_))
      · show k - 1 < k
        omega
    · obtain rfl:k=0:=by omega
      have:x=y:=he
      exact j6 (by rw [this,a5v,if_neg (by omega),if_neg (by omega)])
theorem d07 (x:List Nat) (i:Int) (h0:0≤i):Ax.Pure Tryz.prog G 260 [D x,N i] (N (x.getD i.toNat 0:Nat)):=by
  have lx':=m5 x
  refine r8 Tryz.func260 rfl Tryz.ntmps260 ?_
  intro w0 E0 hc
  repeat' (first|refine n7 hc Tryz.results260 ?_|(with_reducible first|exact trivial|refine j3 ?_ ?_|refine m8 (fun h=>?_)|fail)|(omega;done))
  · exact j6 (by rw [r7])
  · refine j6 ?_
    rw [List.getD_eq_getElem?_getD,List.getElem?_eq_none (by omega)];rfl
structure Add2 (B:Nat) (x y o:List Nat) (c:Nat):Prop where
  lt:∀d∈o,d < B
  hc:c≤1
  eq:val B o+B ^ o.length*c=val B (x.take o.length)+val B (y.take o.length)
theorem Add2.step {B:Nat} (hB:2≤B) {x y o:List Nat} {c:Nat} (h:Add2 B x y o c) (hx:∀d∈x,d < B) (hy:∀d∈y,d < B) :
    Add2 B x y (o++ [(x.getD o.length 0+y.getD o.length 0+c)%B]) ((x.getD o.length 0+y.getD o.length 0+c) / B):=by
  have bx:=r5 (by omega) hx o.length
  have by':=r5 (by omega) hy o.length
  have hc:=h.hc
  refine ⟨a2d h.lt (Nat.mod_lt _ (by omega)),?_,?_⟩
  · have:x.getD o.length 0+y.getD o.length 0+c < 2*B:=by omega
    have:=(Nat.div_lt_iff_lt_mul (show 0 < B by omega)).2 this
    omega
  · rw [List.length_append,List.length_singleton,s7,s7,a12]
    have e:=Nat.div_add_mod (x.getD o.length 0+y.getD o.length 0+c) B
    have h1:=h.eq
    generalize (x.getD o.length 0+y.getD o.length 0+c) / B=q at *
    generalize (x.getD o.length 0+y.getD o.length 0+c)%B=r at *
    rw [Nat.pow_succ,Nat.mul_assoc]
    have e2:B ^ o.length*r+B ^ o.length*(B*q)=B ^ o.length*(x.getD o.length 0)+B ^ o.length*(y.getD o.length 0)+B ^ o.length*c:=by
      rw [←Nat.mul_add,←Nat.mul_add,←Nat.mul_add];congr 1;omega
    omega
def a50 (x y:List Nat):Nat:=if val BR x+val BR y < BR ^ (max x.length y.length) then max x.length y.length else max x.length y.length+1
theorem a9s {n:Nat} (h:n≤9000000000000000000):IntKind.i64.wrap (n:Int)=n:=w64 (by omega) (by omega)
theorem d3p {n d:Nat} (h:n / d < BR):IntKind.i64.wrap ((n / d:Nat):Int)=((n / d:Nat):Int):=a9s (Nat.le_of_lt (Nat.lt_trans h (by decide)))
theorem b78 (n d:Nat):(n:Int).tdiv d=((n / d:Nat):Int):=by rw [Int.tdiv_eq_ediv_of_nonneg (Int.natCast_nonneg n),Int.natCast_ediv]
theorem c2n (n d:Nat):(n:Int).tmod d=((n%d:Nat):Int):=by rw [Int.tmod_eq_emod_of_nonneg (Int.natCast_nonneg n),Int.natCast_emod]
theorem c49 (n:Nat):((n:Nat):Int).tmod 1000000000=((n%BR:Nat):Int):=by
  rw [Int.tmod_eq_emod_of_nonneg (by omega)];simp only [BR];omega
theorem c48 (n:Nat):((n:Nat):Int).tdiv 1000000000=((n / BR:Nat):Int):=by
  rw [Int.tdiv_eq_ediv_of_nonneg (by omega)];simp only [BR];omega
theorem b73 (x y:List Nat) (hx:∀d∈x,d < BR) (hy:∀d∈y,d < BR) (lx:x.length≤1000000000) (ly:y.length≤1000000000):Ax.Pure Tryz.prog G 225 [D x,D y] (D (a2p BR (a50 x y) (val BR x+val BR y))):=by
  have lx':=m5 x
  have ly':=m5 y
  refine r8 Tryz.func225 rfl Tryz.ntmps225 ?_
  intro w0 E0 hc
  repeat' (first|(with_reducible first|refine j0 ?_|refine zr0 hc ?_|refine zm0 hc ?_|refine zwk ?_|refine i6 ?_|refine zgo ?_|refine zbn ?_|refine zge Tryz.results225 ?_|refine Sub.refl _|refine f9|refine w6 (out':=?_) ?_|refine u9 (y:=?_) ?_|refine w5 (eo':=?_) ?_)|(with_reducible refine f6 ?_ ?_;focus (first|decide|omega))|(with_reducible first|refine zg2 ?_ ?_|apply c7r hc|apply b8a hc|refine a26 (fun cc_ hcc_=>?_)|exact b7p|refine zbo ?_|refine zg3 ?_ (fun h=>?_) (fun h=>?_)|refine zg4 (fun h=>?_) (fun h=>?_)|fail)|(exact Is.refl _)|(omega;done))
  refine m9 (α:=List Nat×Nat×Nat) (fun p=>n5 [(0,D x),(1,D y),(5,.one (.gr 0 1 p.1.length p.2.2)),(6,N p.2.1),(7,N p.1.length)] [(0,⟨1,p.2.2,a6k .i64 (y7 p.1),true⟩)] 1)
    (fun p=>Add2 BR x y p.1 p.2.1∧p.1.length≤p.2.2∧(p.1.length≤max x.length y.length∨(p.1.length=max x.length y.length+1∧p.2.1=0∧BR ^ (max x.length y.length)≤val BR x+val BR y)))
    (fun p=>2*(max x.length y.length - p.1.length)+p.2.1) ([],0,0) ⟨⟨by simp,by decide,by simp [val]⟩,Nat.zero_le _,.inl (Nat.zero_le _)⟩ ?_ ?_
  · refine zW2 ?_ <;> repeat' (with_reducible first|exact trivial|refine j3 ?_ ?_|refine t7 (fun i hi=>?_))
  · rintro ⟨o,c,cc⟩ ⟨hA,hcc,hm⟩
    dsimp only at hA hcc hm
    have lo:=m5 o
    have hc1:=hA.hc
    have bx:x.getD o.length 0 < BR:=r5 (by decide) hx o.length
    have by':y.getD o.length 0 < BR:=r5 (by decide) hy o.length
    have st:=hA.step (by decide) hx hy
    have w1:IntKind.i64.wrap (IntKind.i64.wrap (↑(x.getD o.length 0)+↑(y.getD o.length 0))+↑c)=((x.getD o.length 0+y.getD o.length 0+c:Nat):Int):=by
      simp only [BR] at bx by'
      rw [w64 (x:=(x.getD o.length 0:Int)+(y.getD o.length 0:Int)) (by omega) (by omega),w64 (by omega) (by omega)];omega
    have hx0:x.length≤o.length→x.getD o.length 0=0:=fun h=>by rw [List.getD_eq_getElem?_getD,List.getElem?_eq_none h];rfl
    have hy0:y.length≤o.length→y.getD o.length 0=0:=fun h=>by rw [List.getD_eq_getElem?_getD,List.getElem?_eq_none h];rfl
    have hS:max x.length y.length≤o.length→val BR o+BR ^ o.length*c=val BR x+val BR y:=fun h=>by rw [hA.eq,a5q _ _ (by omega),a5q _ _ (by omega)]
    have hpow:o.length=max x.length y.length→0 < c→BR ^ max x.length y.length≤val BR x+val BR y:=fun h1 h2=>by
      rw [←hS (by omega),h1]
      obtain rfl:c=1:=by omega
      omega
    have hdone:max x.length y.length≤o.length→c=0→a2p BR (a50 x y) (val BR x+val BR y)=o:=fun h1 h2=>by
      have hS:=hS h1
      rw [h2,Nat.mul_zero,Nat.add_zero] at hS
      refine a99 (by decide) hA.lt ?_ hS
      have:=a03 BR o hA.lt
      unfold a50
      rcases hm with hm|hm
      · obtain e:o.length=max x.length y.length:=by omega
        rw [if_pos (by rw [←hS,←e];exact this),e]
      · rw [if_neg (by omega),hm.1]
    have hnext:(o.length < max x.length y.length∨0 < c)→(o++ [(x.getD o.length 0+y.getD o.length 0+c)%BR]).length≤max x.length y.length∨((o++ [(x.getD o.length 0+y.getD o.length 0+c)%BR]).length=max x.length y.length+1∧(x.getD o.length 0+y.getD o.length 0+c) / BR=0∧BR ^ max x.length y.length≤val BR x+val BR y):=fun h=>by
      rw [List.length_append,List.length_singleton]
      by_cases h1:o.length < max x.length y.length
      · exact .inl h1
      · have h2:=h.resolve_left h1
        have e:o.length=max x.length y.length:=by omega
        refine .inr ⟨by omega,?_,hpow e h2⟩
        rw [hx0 (by omega),hy0 (by omega)]
        exact Nat.div_eq_of_lt (by simp only [BR];omega)
    have hmeas:(o.length < max x.length y.length∨0 < c)→2*(max x.length y.length - (o++ [(x.getD o.length 0+y.getD o.length 0+c)%BR]).length)+(x.getD o.length 0+y.getD o.length 0+c) / BR < 2*(max x.length y.length - o.length)+c:=fun h=>by
      have:=st.hc
      rw [List.length_append,List.length_singleton]
      by_cases h1:o.length < max x.length y.length
      · omega
      · have h2:=h.resolve_left h1
        rw [hx0 (by omega),hy0 (by omega)]
        rw [Nat.div_eq_of_lt (by simp only [BR];omega)]
        omega
    clear hS hpow
    repeat' (first|(with_reducible first|refine j0 ?_|refine zwk ?_|refine i6 ?_|refine zgo ?_|refine zbn ?_|refine zge Tryz.results225 ?_|refine Sub.refl _|refine f9|refine w6 (out':=?_) ?_|refine u9 (y:=?_) ?_|refine w5 (eo':=?_) ?_)|(with_reducible refine zrs [9] hc ?_ ?_;focus (with_unfolding_all rfl))|(with_reducible refine zrm [9] hc mixed ?_ ?_;focus (with_unfolding_all rfl))|(with_reducible refine f6 ?_ ?_;focus (first|decide|omega))|(with_reducible first|refine zg2 ?_ ?_|apply c7r hc|apply b8a hc|refine a26 (fun cc_ hcc_=>?_)|exact b7p|refine c9 (d07 _ _ ?_) ?_ ?_|refine zbo ?_|refine zg3 ?_ (fun h=>?_) (fun h=>?_)|refine zg4 (fun h=>?_) (fun h=>?_)|fail)|(exact Is.refl _)|((first|omega|decide);done))
    rotate_left
    · refine b8h hc 0 5 o.length cc .i64 (y7 o) [] [] 1 [] [] ?_ rfl lo hcc rfl rfl (fun _ h=>by cases h) ?_
      · refine zW2 ?_ <;> repeat' (with_reducible first|exact trivial|refine j3 ?_ ?_|refine t7 (fun i hi=>?_))
      · repeat' (first|refine n7 hc Tryz.results225 ?_|(with_reducible first|exact trivial|refine j3 ?_ ?_|refine m8 (fun h=>?_)|fail))
        all_goals exact d1h (by rw [hdone (by omega) (by omega)])
    all_goals
      refine ⟨(o++ [(x.getD o.length 0+y.getD o.length 0+c)%BR],(x.getD o.length 0+y.getD o.length 0+c) / BR,cc_),⟨st,?_,hnext (by omega)⟩,hmeas (by omega),?_⟩
      · rw [List.length_append,List.length_singleton];exact hcc_
      · refine zW2 ?_ <;> repeat' (with_reducible first|exact trivial|refine j3 ?_ ?_|refine t7 (fun i hi=>?_))
        · rw [List.length_append,List.length_singleton]
        · rw [w1,c48];exact a9s (by have:=st.hc;omega)
        · rw [w1,c49,a5y _ rfl]
theorem b74 (x y:List Nat) (hx:∀d∈x,d < BR) (hy:∀d∈y,d < BR) (lx:x.length≤1000000000) (hyx:y.length≤x.length) (hle:val BR y≤val BR x):Ax.Pure Tryz.prog G 227 [D x,D y] (D (f7 BR (val BR x - val BR y))):=by
  have lx':=m5 x
  have ly':=m5 y
  refine r8 Tryz.func227 rfl Tryz.ntmps227 ?_
  intro w0 E0 hc
  repeat' (first|(with_reducible first|refine j0 ?_|refine zr0 hc ?_|refine zm0 hc ?_|refine zwk ?_|refine i6 ?_|refine zgo ?_|refine zbn ?_|refine zge Tryz.results227 ?_|refine Sub.refl _|refine f9|refine w6 (out':=?_) ?_|refine u9 (y:=?_) ?_|refine w5 (eo':=?_) ?_)|(with_reducible refine f6 ?_ ?_;focus (first|decide|omega))|(with_reducible first|refine zg2 ?_ ?_|apply c7r hc|apply b8a hc|refine a26 (fun cc_ hcc_=>?_)|exact b7p|refine zbo ?_|refine zg3 ?_ (fun h=>?_) (fun h=>?_)|refine zg4 (fun h=>?_) (fun h=>?_)|fail)|(exact Is.refl _)|(omega;done))
  refine m9 (α:=List Nat×Nat×Nat) (fun p=>n5 [(0,D x),(1,D y),(5,.one (.gr 0 1 p.1.length p.2.2)),(6,N p.2.1),(7,N p.1.length)] [(0,⟨1,p.2.2,a6k .i64 (y7 p.1),true⟩)] 1)
    (fun p=>a9a BR x y p.1 p.2.1∧p.1.length≤p.2.2) (fun p=>x.length - p.1.length) ([],0,0) ⟨a9a.nil x y,Nat.zero_le _⟩ ?_ ?_
  · refine zW2 ?_ <;> repeat' (with_reducible first|exact trivial|refine j3 ?_ ?_|refine t7 (fun i hi=>?_))
  · rintro ⟨o,c,cc⟩ ⟨hA,hcc⟩
    dsimp only at hA hcc
    have lo:=m5 o
    have hc1:=hA.hc
    have hlen:=hA.len
    have bx:x.getD o.length 0 < BR:=r5 (by decide) hx o.length
    have by':y.getD o.length 0 < BR:=r5 (by decide) hy o.length
    have gx:=r7 x o.length
    have w1:IntKind.i64.wrap (IntKind.i64.wrap (↑(x.getD o.length 0) - ↑(y.getD o.length 0)) - ↑c)=(x.getD o.length 0:Int) - (y.getD o.length 0:Int) - c:=by
      simp only [BR] at bx by'
      rw [w64 (x:=(x.getD o.length 0:Int) - (y.getD o.length 0:Int)) (by omega) (by omega),w64 (by omega) (by omega)]
    have w2:IntKind.i64.wrap ((x.getD o.length 0:Int) - (y.getD o.length 0:Int) - c+1000000000)=(x.getD o.length 0:Int) - (y.getD o.length 0:Int) - c+1000000000:=by
      simp only [BR] at bx by'
      rw [w64 (by omega) (by omega)]
    have hnx:o.length < x.length→x.length - (o.length+1) < x.length - o.length:=fun h=>by omega
    repeat' (first|(with_reducible first|refine j0 ?_|refine zwk ?_|refine i6 ?_|refine zgo ?_|refine zbn ?_|refine zge Tryz.results227 ?_|refine Sub.refl _|refine f9|refine w6 (out':=?_) ?_|refine u9 (y:=?_) ?_|refine w5 (eo':=?_) ?_)|(with_reducible refine zrs [12] hc ?_ ?_;focus (with_unfolding_all rfl))|(with_reducible refine zrm [12] hc mixed ?_ ?_;focus (with_unfolding_all rfl))|(with_reducible refine f6 ?_ ?_;focus (first|decide|omega))|(with_reducible first|refine zg2 ?_ ?_|apply c7r hc|apply b8a hc|refine a26 (fun cc_ hcc_=>?_)|exact b7p|refine c9 (d07 _ _ ?_) ?_ ?_|refine zbo ?_|refine zg3 ?_ (fun h=>?_) (fun h=>?_)|refine zg4 (fun h=>?_) (fun h=>?_)|fail)|(exact Is.refl _)|((first|omega|decide);done))
    rotate_right
    · refine b8h hc 0 5 o.length cc .i64 (y7 o) [] [] 1 [] [] ?_ rfl lo hcc rfl rfl (fun _ h=>by cases h) ?_
      · refine zW2 ?_ <;> repeat' (with_reducible first|exact trivial|refine j3 ?_ ?_|refine t7 (fun i hi=>?_))
      · have e:=hA.done (by omega) hyx hle
        repeat' (first|refine n7 hc Tryz.results227 ?_|(with_reducible first|exact trivial|refine j3 ?_ ?_|refine m8 (fun h=>?_)|refine c9 (b1n _ ?_) ?_ ?_|fail)|(omega;done))
        all_goals exact d1h (by rw [a0r (by decide) hA.lt,e])
    all_goals
      have st:=hA.step (by decide) hx hy (by omega)
      refine ⟨(o++ [(x.getD o.length 0+BR - y.getD o.length 0 - c)%BR],(if x.getD o.length 0 < y.getD o.length 0+c then 1 else 0),cc_),⟨st,?_⟩,?_,?_⟩
      · rw [List.length_append,List.length_singleton];exact hcc_
      · rw [List.length_append,List.length_singleton];exact hnx (by omega)
    · rename_i h
      rw [gx,w1] at h
      have hlt:x.getD o.length 0 < y.getD o.length 0+c:=by omega
      have hd:(x.getD o.length 0:Int) - (y.getD o.length 0:Int) - c+1000000000=(((x.getD o.length 0+BR - y.getD o.length 0 - c)%BR:Nat):Int):=by
        rw [Nat.mod_eq_of_lt (by omega)];simp only [BR] at *;omega
      rw [if_pos hlt]
      refine zW2 ?_ <;> repeat' (with_reducible first|exact trivial|refine j3 ?_ ?_|refine t7 (fun i hi=>?_))
      · rw [List.length_append,List.length_singleton]
      · rw [gx,w1,w2,a5y _ hd]
    · rename_i h
      rw [gx,w1] at h
      have hlt:¬x.getD o.length 0 < y.getD o.length 0+c:=by omega
      have hd:(x.getD o.length 0:Int) - (y.getD o.length 0:Int) - c=(((x.getD o.length 0+BR - y.getD o.length 0 - c)%BR:Nat):Int):=by
        have:x.getD o.length 0+BR - y.getD o.length 0 - c=(x.getD o.length 0 - y.getD o.length 0 - c)+BR:=by omega
        rw [this,Nat.add_mod_right,Nat.mod_eq_of_lt (by omega)];omega
      rw [if_neg hlt]
      refine zW2 ?_ <;> repeat' (with_reducible first|exact trivial|refine j3 ?_ ?_|refine t7 (fun i hi=>?_))
      · rw [List.length_append,List.length_singleton]
      · rw [gx,w1,a5y _ hd]
theorem b1m (x y:List Nat) (hx:∀d∈x,d < BR) (hy:∀d∈y,d < BR) (lx:x.length≤1000000000) (ly:y.length≤1000000000):Ax.Pure Tryz.prog G 228 [D x,D y] (D (f7 BR (val BR x*val BR y))):=by
  have lx':=m5 x
  have ly':=m5 y
  have w1:(IntKind.i64.wrap (↑(y7 x).length+↑(y7 y).length)).toNat=x.length+y.length:=by rw [IntKind.wrap_i64];omega
  refine r8 Tryz.func228 rfl Tryz.ntmps228 ?_
  intro w0 E0 hc
  repeat' (first|refine n7 hc Tryz.results228 ?_|(with_reducible first|exact trivial|refine j3 ?_ ?_|refine m8 (fun h=>?_)|fail)|(first|omega|(simp only [IntKind.wrap_i64,IntKind.wrap_u64,Bool.and_self,true_and,and_true];omega);done))
  refine m9 (α:=Nat×List Nat) (fun p=>n5 [(0,D x),(1,D y),(5,.one (.own 0 1 0 (x.length+y.length) (x.length+y.length))),(6,N p.1)] [(0,⟨1,x.length+y.length,fun i=> [.v (.int .i64 (p.2.getD i 0:Nat))],false⟩)] 1)
    (fun p=>a2x BR x y p.2 p.1) (fun p=>x.length - p.1) (0,List.replicate (x.length+y.length) 0) (a2x.zero' (by decide) _ _) ?_ ?_
  · refine zW2 ?_ <;> repeat' (with_reducible first|exact trivial|refine j3 ?_ ?_|refine t7 (fun i hi=>?_))
    rw [List.getD_eq_getElem?_getD,List.getElem?_replicate]
    split <;> rfl
  · rintro ⟨i,o⟩ hR
    dsimp only at hR
    have gx:=r7 x i
    have hi:=hR.hi
    have hlen:=hR.len
    have wi:IntKind.i64.wrap (↑i+1)=((i+1:Nat):Int):=by rw [IntKind.wrap_i64];omega
    have hlast:i < x.length→x.length - (i+1) < x.length - i:=fun h=>by omega
    repeat' (first|(with_reducible first|refine j0 ?_|refine zwk ?_|refine i6 ?_|refine zgo ?_|refine zbn ?_|refine zge Tryz.results228 ?_|refine Sub.refl _|refine f9|refine w6 (out':=?_) ?_|refine u9 (y:=?_) ?_|refine w5 (eo':=?_) ?_)|(with_reducible refine zrs [13] hc ?_ ?_;focus (with_unfolding_all rfl))|(with_reducible refine zrm [13] hc mixed ?_ ?_;focus (with_unfolding_all rfl))|(with_reducible refine f6 ?_ ?_;focus (first|decide|omega))|(with_reducible first|refine zg2 ?_ ?_|refine zbo ?_|refine zg3 ?_ (fun h=>?_) (fun h=>?_)|refine zg4 (fun h=>?_) (fun h=>?_)|fail)|(first|omega|(simp only [IntKind.wrap_i64,IntKind.wrap_u64,Bool.and_self,true_and,and_true];omega);done))
    · refine m9 (α:=Nat×List Nat×Nat) (fun p=>n5 [(0,D x),(1,D y),(5,.one (.own 0 1 0 (x.length+y.length) (x.length+y.length))),(6,N i),(7,N p.2.2),(8,N p.1)] [(0,⟨1,x.length+y.length,fun i=> [.v (.int .i64 (p.2.1.getD i 0:Nat))],false⟩)] 1)
        (fun p=>p.2.1.length=x.length+y.length∧b80 BR (val BR (x.take i)*val BR y) i (x.getD i 0) y p.2.1 p.1 p.2.2) (fun p=>y.length - p.1) (0,o,0) ⟨hR.len,hR.start (by omega) (by decide)⟩ ?_ ?_
      · refine zW2 ?_ <;> repeat' (with_reducible first|exact trivial|refine j3 ?_ ?_|refine t7 (fun i hi=>?_))
      · rintro ⟨j,o,c⟩ ⟨ho,hM⟩
        dsimp only at ho hM
        have hj:=hM.hj
        have gy:=r7 y j
        have wij:IntKind.i64.wrap (↑i+↑j)=((i+j:Nat):Int):=by rw [IntKind.wrap_i64];omega
        have wj:IntKind.i64.wrap (↑j+1)=((j+1:Nat):Int):=by rw [IntKind.wrap_i64];omega
        have wil:IntKind.i64.wrap (↑i+↑(y7 y).length)=((i+y.length:Nat):Int):=by rw [IntKind.wrap_i64];omega
        have bx:x.getD i 0 < BR:=r5 (by decide) hx i
        have by':y.getD j 0 < BR:=r5 (by decide) hy j
        have ba:o.getD (i+j) 0 < BR:=r5 (by decide) hM.lt (i+j)
        have hcc:=hM.hc
        have hm:x.getD i 0*y.getD j 0≤999999999*999999999:=Nat.mul_le_mul (by simp only [BR] at bx;omega) (by simp only [BR] at by';omega)
        have hs:IntKind.i64.wrap (IntKind.i64.wrap ((o.getD (i+j) 0:Int)+IntKind.i64.wrap ((x.getD i 0:Int)*(y.getD j 0:Int)))+c)=((o.getD (i+j) 0+x.getD i 0*y.getD j 0+c:Nat):Int):=by
          simp only [BR] at ba hcc
          rw [←Int.natCast_mul,a9s (by omega),←Int.natCast_add,a9s (by omega),←Int.natCast_add,a9s (by omega)]
        have hq:(o.getD (i+j) 0+x.getD i 0*y.getD j 0+c) / BR < BR:=by
          rw [Nat.div_lt_iff_lt_mul (by decide)];simp only [BR] at *;omega
        repeat' (first|(with_reducible first|refine j0 ?_|refine zwk ?_|refine i6 ?_|refine zgo ?_|refine zbn ?_|refine zge Tryz.results228 ?_|refine Sub.refl _|refine f9|refine w6 (out':=?_) ?_|refine u9 (y:=?_) ?_|refine w5 (eo':=?_) ?_)|(with_reducible refine zrs [12] hc ?_ ?_;focus (with_unfolding_all rfl))|(with_reducible refine zrm [12] hc mixed ?_ ?_;focus (with_unfolding_all rfl))|(with_reducible refine f6 ?_ ?_;focus (first|decide|omega))|(with_reducible first|refine zg2 ?_ ?_|refine zbo ?_|refine zg3 ?_ (fun h=>?_) (fun h=>?_)|refine zg4 (fun h=>?_) (fun h=>?_)|fail)|((first|omega|decide|(simp only [wij,wil,Int.toNat_natCast,Bool.and_self,true_and,and_true];omega));done))
        · refine ⟨(j+1,_,_),⟨?_,hM.step (by omega) (Nat.mod_lt (o.getD (i+j) 0+x.getD i 0*y.getD j 0+c) (by decide)) hq ?_⟩,?_,?_⟩
          · simp only [List.length_set];exact ho
          · rw [Nat.mod_add_div];omega
          · dsimp only;omega
          · refine zW2 ?_ <;> repeat' (with_reducible first|exact trivial|refine j3 ?_ ?_|refine t7 (fun i hi=>?_))
            · simp only [wij,gx,gy,Int.toNat_natCast,Nat.zero_add,Int.add_zero];rw [hs,c48];exact d3p hq
            · exact a06 _ (by rw [wij,Nat.zero_add,Int.toNat_natCast]) (by simp only [wij,gx,gy,Int.toNat_natCast,Nat.zero_add,Int.add_zero];rw [hs,c49]) (by omega)
        · obtain rfl:j=y.length:=by omega
          have hz:=hM.zero (i+y.length) (Nat.le_refl _)
          repeat' (first|refine n7 hc Tryz.results228 ?_|(with_reducible first|exact trivial|refine j3 ?_ ?_|refine m8 (fun h=>?_)|fail)|((first|omega|decide|(simp only [wij,wil,Int.toNat_natCast,Bool.and_self,true_and,and_true];omega));done))
          refine ⟨(i+1,_),a2x.next (by omega) ho hM,?_,?_⟩
          · dsimp only;omega
          · refine zW2 ?_ <;> repeat' (with_reducible first|exact trivial|refine j3 ?_ ?_|refine t7 (fun i hi=>?_))
            exact a06 _ (by rw [wil,Nat.zero_add,Int.toNat_natCast]) (by simp only [wil,Int.toNat_natCast,Nat.zero_add,Int.add_zero];rw [hz];simp only [BR] at hcc;rw [Int.natCast_zero,Int.zero_add];exact a9s (by omega)) (by omega)
    · refine a9w hc 0 5 (x.length+y.length) .i64 (y7 o) [] [] 1 [] [] ?_ (Nat.le_refl _) (by simp [hlen]) rfl rfl (fun _ h=>by cases h) ?_
      · refine zW2 ?_ <;> repeat' (with_reducible first|exact trivial|refine j3 ?_ ?_|refine t7 (fun i hi=>?_))
        rw [r7]
      · repeat' (first|refine n7 hc Tryz.results228 ?_|(with_reducible first|exact trivial|refine j3 ?_ ?_|refine m8 (fun h=>?_)|refine c9 (b1n _ ?_) ?_ ?_|fail)|(first|omega|(simp only [IntKind.wrap_i64,IntKind.wrap_u64,Bool.and_self,true_and,and_true];omega);done))
        obtain rfl:i=x.length:=by omega
        exact j6 (by rw [a0r (by decide) hR.lt,hR.done])
theorem b93 (x:List Nat) (d:Nat) (hx:∀e∈x,e < BR) (lx:x.length≤1000000000) (h0:0 < d) (hd:d < BR):Ax.Pure Tryz.prog G 255 [D x,N d] (.tup [D (f7 BR (val BR x / d)),N (val BR x%d:Nat)]):=by
  have lx':=m5 x
  refine r8 Tryz.func255 rfl Tryz.ntmps255 ?_
  intro w0 E0 hc
  repeat' (first|refine n7 hc Tryz.results255 ?_|(with_reducible first|exact trivial|refine j3 ?_ ?_|refine m8 (fun h=>?_)|fail)|(first|omega|(simp only [IntKind.wrap_i64,IntKind.wrap_u64,Bool.and_self,true_and,and_true];omega);done))
  refine m9 (α:=Nat×List Nat×Nat) (fun p=>n5 [(0,D x),(1,N d),(6,.one (.own 0 1 0 x.length x.length)),(7,N p.2.2),(8,N ((p.1:Int) - 1))] [(0,⟨1,x.length,fun i=> [.v (.int .i64 (p.2.1.getD i 0:Nat))],false⟩)] 1)
    (fun p=>D1 BR x d p.2.1 p.1 p.2.2) (fun p=>p.1) (x.length,List.replicate x.length 0,0) (D1.start (by decide) x h0) ?_ ?_
  · refine zW2 ?_ <;> repeat' (with_reducible first|exact trivial|refine j3 ?_ ?_|refine t7 (fun i hi=>?_))
    rw [List.getD_eq_getElem?_getD,List.getElem?_replicate]
    split <;> rfl
  · rintro ⟨k,o,r⟩ hD
    dsimp only at hD
    have ho:=hD.len
    have hk:=hD.hk
    have hr:=hD.hr
    cases k with
    | zero =>
      refine a9w hc 0 6 x.length .i64 (y7 o) [(7,N r),(8,N ((0:Nat) - 1:Int))] [] 1 [(7,N r),(8,N ((0:Nat) - 1:Int))] [] ?_ (Nat.le_refl _) (by simp [ho]) rfl rfl (fun _ h=>by cases h) ?_
      · refine zW2 ?_ <;> repeat' (with_reducible first|exact trivial|refine j3 ?_ ?_|refine t7 (fun i hi=>?_))
        rw [r7]
      · repeat' (first|refine n7 hc Tryz.results255 ?_|(with_reducible first|exact trivial|refine j3 ?_ ?_|refine m8 (fun h=>?_)|refine c9 (b1n _ ?_) ?_ ?_|fail)|(first|omega|(simp only [IntKind.wrap_i64,IntKind.wrap_u64,Bool.and_self,true_and,and_true];omega);done))
        obtain ⟨e1,e2⟩:=hD.done
        exact j6 (by rw [a0r (by decide) hD.lt,e1,e2])
    | succ k =>
      have gx:=r7 x k
      have hs:=hD.step hx
      have ba:x.getD k 0 < BR:=r5 (by decide) hx k
      have hr9:r≤999999999:=by simp only [BR] at hd;omega
      have hd0:(d:Int)≠0:=by omega
      have wk:((k+1:Nat):Int) - 1=k:=by omega
      have ws:IntKind.i64.wrap (IntKind.i64.wrap ((r:Int)*1000000000)+(x.getD k 0:Nat))=((r*BR+x.getD k 0:Nat):Int):=by
        simp only [BR] at ba
        rw [show (r:Int)*1000000000=((r*1000000000:Nat):Int) by omega,a9s (by omega),←Int.natCast_add,a9s (by omega)]
      rw [wk]
      repeat' (first|refine n7 hc Tryz.results255 ?_|(with_reducible first|exact trivial|refine j3 ?_ ?_|refine m8 (fun h=>?_)|fail)|((first|omega|decide|with_reducible refine And.intro hd0 rfl);done))
      refine ⟨(k,_,_),hs.2,Nat.lt_succ_self k,?_⟩
      have e1:=b78 (r*BR+x.getD k 0) d
      have e2:=c2n (r*BR+x.getD k 0) d
      refine zW2 ?_ <;> repeat' (with_reducible first|exact trivial|refine j3 ?_ ?_|refine t7 (fun i hi=>?_))
      · rw [gx,ws,e2]
      · exact a06 _ (by rw [Nat.zero_add]) (by rw [gx,ws,e1];exact d3p hs.1) (by omega)
end Go.Proofs
end
section
set_option maxHeartbeats 4000000
set_option maxRecDepth 100000
namespace Go.Proofs
open Go.Ax
abbrev Bo' (b:Bool):AV:=.one (.v (.bool b))
abbrev rA (z:Int):AV:=.agg [.v (.bool (decide (z < 0))),.ints .i64 (y7 (f7 BR z.natAbs))]
def rl (z:Int):Nat:=(f7 BR z.natAbs).length
theorem d7f {b:Bool} {l:List Nat} {z:Int} (hb:b=decide (z < 0)) (hl:l=f7 BR z.natAbs):Ax.Sub (.agg [.v (.bool b),.ints .i64 (y7 l)]) (rA z):=hb ▸ hl ▸ Sub.refl _
def sgn (neg:Bool) (n:Nat):Int:=if neg=true then -(n:Int) else n
theorem b8x (neg:Bool) (n:Nat):(sgn neg n).natAbs=n:=by unfold sgn;split <;> omega
theorem d1e (neg:Bool) (n:Nat):decide (sgn neg n < 0)=(neg && decide (0 < n)):=by
  unfold sgn
  cases neg
  · simp
  · simp
theorem d3m {B:Nat} (hB:0 < B) {l:List Nat}:0 < (a04 l).length↔0 < val B l:=by
  rw [←b2k B l]
  constructor
  · intro h
    rcases Nat.eq_zero_or_pos (val B (a04 l)) with e|e
    · exfalso
      cases h2:a04 l with
      | nil=>rw [h2] at h;simp at h
      | cons d ds =>
        have hlast:=b4d l
        have:∀t:List Nat,val B t=0→t≠[]→t.getLast?=some 0:=by
          intro t
          induction t with
          | nil=>intro _ h;exact absurd rfl h
          | cons x t ih =>
            intro h _
            simp only [val] at h
            have hx:x=0:=by omega
            have ht:val B t=0:=by
              rcases Nat.eq_zero_or_pos (val B t) with e|e
              · exact e
              · have:=Nat.mul_pos hB e;omega
            cases t with
            | nil=>simp [hx]
            | cons y t=>rw [List.getLast?_cons_cons];exact ih ht (by simp)
        exact hlast (this _ e (by rw [h2];simp))
    · exact e
  · intro h
    cases h2:a04 l with
    | nil=>rw [h2] at h;simp [val] at h
    | cons d ds=>simp
theorem d2w (l:List Nat) (hl:∀d∈l,d < BR) (ll:l.length≤4611686018427387904):Ax.Pure Tryz.prog G 224 [Bo' false,D l] (rA (sgn false (val BR l))):=by
  have e1:f7 BR (sgn false (val BR l)).natAbs=a04 l:=by rw [b8x,a0r (by decide) hl]
  have e3:=d1e false (val BR l)
  refine r8 Tryz.func224 rfl Tryz.ntmps224 ?_
  intro w0 E0 hc
  repeat' (first|refine n7 hc Tryz.results224 ?_|(with_reducible first|exact trivial|refine j3 ?_ ?_|refine m8 (fun h=>?_)|refine c9 (b1n _ ?_) ?_ ?_|fail)|(omega;done))
  all_goals exact d7f (by rw [e3];rfl) e1.symm
theorem d2x (l:List Nat) (hl:∀d∈l,d < BR) (ll:l.length≤4611686018427387904):Ax.Pure Tryz.prog G 224 [Bo' true,D l] (rA (sgn true (val BR l))):=by
  have e1:f7 BR (sgn true (val BR l)).natAbs=a04 l:=by rw [b8x,a0r (by decide) hl]
  have e2:=d3m (B:=BR) (by decide) (l:=l)
  have e3:=d1e true (val BR l)
  have lt:=m5 (a04 l)
  refine r8 Tryz.func224 rfl Tryz.ntmps224 ?_
  intro w0 E0 hc
  repeat' (first|refine n7 hc Tryz.results224 ?_|(with_reducible first|exact trivial|refine j3 ?_ ?_|refine m8 (fun h=>?_)|refine c9 (b1n _ ?_) ?_ ?_|fail)|(omega;done))
  all_goals exact d7f (by rw [e3,lt];simp;omega) e1.symm
theorem a4r (neg:Bool) (l:List Nat) (hl:∀d∈l,d < BR) (ll:l.length≤4611686018427387904):Ax.Pure Tryz.prog G 224 [Bo' neg,D l] (rA (sgn neg (val BR l))):=by
  cases neg
  · exact d2w l hl ll
  · exact d2x l hl ll
theorem d0g {B v1 v2 u3 t r:Nat} (h:B≤t∨r*B+u3 < t*v2) (h0:1≤t):gF B v1 v2 u3 t r=if B≤r+v1 then t - 1 else gF B v1 v2 u3 (t - 1) (r+v1):=by
  obtain ⟨t,rfl⟩:∃s,t=s+1:=⟨t - 1,by omega⟩
  rw [gF,if_pos h];rfl
theorem gF_no {B v1 v2 u3 t r:Nat} (h:¬(B≤t∨r*B+u3 < t*v2)):gF B v1 v2 u3 t r=t:=by
  cases t with
  | zero=>rfl
  | succ t=>rw [gF,if_neg h]
theorem d9b (u v:List Nat) (j n m cc:Nat) (hu:∀d∈u,d < BR) (hv:∀d∈v,d < BR) (hn:v.length=n+2) (hm:u.length=m) (hj:j+(n+3)≤m) (hmc:m≤cc) (lo:m≤4000000000000) (hv1:0 < v.getD (n+1) 0) :
    b0v Tryz.prog G0 257 ⟨1,m,fun k=> [.v (.int .i64 (u.getD k 0:Nat))],false⟩ [.one (.own 0 1 0 m cc),D v,N j] (N (gF BR (v.getD (n+1) 0) (v.getD n 0) (u.getD (j+n) 0) ((u.getD (j+(n+2)) 0*BR+u.getD (j+(n+1)) 0) / v.getD (n+1) 0) ((u.getD (j+(n+2)) 0*BR+u.getD (j+(n+1)) 0)%v.getD (n+1) 0):Nat)) ⟨1,m,fun k=> [.v (.int .i64 (u.getD k 0:Nat))],false⟩:=by
  have lv':=m5 v
  have gv1:=r7 v (n+1)
  have gv2:=r7 v n
  have b1:v.getD (n+1) 0 < BR:=r5 (by decide) hv _
  have b2:v.getD n 0 < BR:=r5 (by decide) hv _
  have c1:u.getD (j+(n+2)) 0 < BR:=r5 (by decide) hu _
  have c2:u.getD (j+(n+1)) 0 < BR:=r5 (by decide) hu _
  have c3:u.getD (j+n) 0 < BR:=r5 (by decide) hu _
  generalize hv1':v.getD (n+1) 0=v1 at *
  generalize hv2':v.getD n 0=v2 at *
  generalize hu1':u.getD (j+(n+2)) 0=u1 at *
  generalize hu2':u.getD (j+(n+1)) 0=u2 at *
  generalize hu3':u.getD (j+n) 0=u3 at *
  have q0:IntKind.i64.wrap ((j:Int)+((n+2:Nat):Int))=((j+(n+2):Nat):Int):=by rw [←Int.natCast_add];exact a9s (by omega)
  have w1:IntKind.i64.wrap (((n+2:Nat):Int) - 1)=((n+1:Nat):Int):=by rw [IntKind.wrap_i64];omega
  have w2:IntKind.i64.wrap (((n+2:Nat):Int) - 2)=((n:Nat):Int):=by rw [IntKind.wrap_i64];omega
  have w3:IntKind.i64.wrap (((j+(n+2):Nat):Int) - 1)=((j+(n+1):Nat):Int):=by rw [IntKind.wrap_i64];omega
  have w4:IntKind.i64.wrap (((j+(n+2):Nat):Int) - 2)=((j+n:Nat):Int):=by rw [IntKind.wrap_i64];omega
  refine b1y a1u Tryz.func257 rfl (by kernel_rfl) (fun _=>trivial) ?_ (by rw [Tryz.ntmps257];exact of_decide_eq_true rfl) (by simp [AV.cl,i7.cl]) ⟨fun _ _=>⟨trivial,trivial⟩,fun _ _=>⟨trivial,trivial⟩⟩ ?_
  · intro x hx
    simp only [List.mem_cons,List.not_mem_nil,or_false] at hx
    rcases hx with rfl|rfl|rfl
    · exact ⟨_,rfl,.inl ⟨_,_,_,_,rfl⟩⟩
    · exact ⟨_,rfl,.inr rfl⟩
    · exact ⟨_,rfl,.inr rfl⟩
  intro w0 E0 W0 hc
  refine m7 (st':=n5 [(0,.one (.own 0 1 0 m cc)),(1,D v),(2,N j)] [(0,⟨1,m,fun k=> [.v (.int .i64 (u.getD k 0:Nat))],false⟩)] 1) ?_ ?_
  · refine zW2 ?_ <;> repeat' (with_reducible first|exact trivial|refine j3 ?_ ?_|refine t7 (fun i hi=>?_))
    all_goals rfl
  repeat' (first|(with_reducible first|refine j0 ?_|refine zwk ?_|refine i6 ?_|refine zgo ?_|refine zbn ?_|refine zge Tryz.results257 ?_|refine Sub.refl _|refine f9|refine w6 (out':=?_) ?_|refine u9 (y:=?_) ?_|refine w5 (eo':=?_) ?_)|(with_reducible refine zrs [2] hc ?_ ?_;focus (with_unfolding_all rfl))|(with_reducible refine zrm [2] hc mixed ?_ ?_;focus (with_unfolding_all rfl))|(with_reducible refine f6 ?_ ?_;focus (first|decide|omega))|(with_reducible first|refine zg2 ?_ ?_|refine zbo ?_|refine zg3 ?_ (fun h=>?_) (fun h=>?_)|refine zg4 (fun h=>?_) (fun h=>?_)|fail)|(first|omega|(simp only [IntKind.wrap_i64,IntKind.wrap_u64,Bool.and_self,true_and,and_true];omega);done))
  refine m7 (st':=n5 [(0,.one (.own 0 1 0 m cc)),(1,D v),(2,N j),(7,N (n+2:Nat))] [(0,⟨1,m,fun k=> [.v (.int .i64 (u.getD k 0:Nat))],false⟩)] 1) ?_ ?_
  · refine zW2 ?_ <;> repeat' (with_reducible first|exact trivial|refine j3 ?_ ?_|refine t7 (fun i hi=>?_))
    all_goals rfl
  have wT:IntKind.i64.wrap (IntKind.i64.wrap ((u1:Int)*1000000000)+(u2:Int))=((u1*BR+u2:Nat):Int):=by
    simp only [BR] at c1 c2
    rw [show (u1:Int)*1000000000=((u1*1000000000:Nat):Int) by omega,a9s (by omega),←Int.natCast_add,a9s (by omega)]
  have hv0:(v1:Int)≠0:=by omega
  have x1:IntKind.i64.wrap (IntKind.i64.wrap ((j:Int)+((n+2:Nat):Int)) - 1)=((j+(n+1):Nat):Int):=by rw [q0,w3]
  have x2:IntKind.i64.wrap (IntKind.i64.wrap ((j:Int)+((n+2:Nat):Int)) - 2)=((j+n:Nat):Int):=by rw [q0,w4]
  repeat' (first|(with_reducible first|refine j0 ?_|refine zwk ?_|refine i6 ?_|refine zgo ?_|refine zbn ?_|refine zge Tryz.results257 ?_|refine Sub.refl _|refine f9|refine w6 (out':=?_) ?_|refine u9 (y:=?_) ?_|refine w5 (eo':=?_) ?_)|(with_reducible refine zrs [4] hc ?_ ?_;focus (with_unfolding_all rfl))|(with_reducible refine zrm [4] hc mixed ?_ ?_;focus (with_unfolding_all rfl))|(with_reducible refine f6 ?_ ?_;focus (first|decide|omega))|(with_reducible first|refine zg2 ?_ ?_|refine zbo ?_|refine zg3 ?_ (fun h=>?_) (fun h=>?_)|refine zg4 (fun h=>?_) (fun h=>?_)|fail)|((first|omega|(refine And.intro ?_ rfl;simp only [w1,Int.toNat_natCast,gv1];exact hv0)|(simp only [q0,w1,w2,w3,w4,Int.toNat_natCast,Nat.zero_add,and_true];omega));done))
  have E1:(y7 v).getD (IntKind.i64.wrap (((n+2:Nat):Int) - 1)).toNat 0=(v1:Int):=by rw [w1,Int.toNat_natCast,gv1]
  have E2:(y7 v).getD (IntKind.i64.wrap (((n+2:Nat):Int) - 2)).toNat 0=(v2:Int):=by rw [w2,Int.toNat_natCast,gv2]
  have F1:u.getD (0+(IntKind.i64.wrap ((j:Int)+((n+2:Nat):Int))).toNat) 0=u1:=by rw [q0,Int.toNat_natCast,Nat.zero_add,hu1']
  have F2:u.getD (0+(IntKind.i64.wrap (IntKind.i64.wrap ((j:Int)+((n+2:Nat):Int)) - 1)).toNat) 0=u2:=by rw [q0,w3,Int.toNat_natCast,Nat.zero_add,hu2']
  have F3:u.getD (0+(IntKind.i64.wrap (IntKind.i64.wrap ((j:Int)+((n+2:Nat):Int)) - 2)).toNat) 0=u3:=by rw [q0,w4,Int.toNat_natCast,Nat.zero_add,hu3']
  obtain ⟨T,hT⟩:∃T,u1*BR+u2=T:=⟨_,rfl⟩
  have hTb:T≤9000000000000000000:=by
    rw [←hT]
    have h1:u1*BR+BR≤BR*BR:=by rw [←Nat.succ_mul];exact Nat.mul_le_mul_right _ c1
    exact Nat.le_trans (Nat.le_trans (Nat.add_le_add_left (Nat.le_of_lt c2) _) h1) (by decide)
  rw [hT] at wT ⊢
  have hdm:=Nat.div_add_mod T v1
  have hml:=Nat.mod_lt T hv1
  have hqT:T / v1≤T:=Nat.div_le_self _ _
  have hq64:IntKind.i64.wrap ((T / v1:Nat):Int)=((T / v1:Nat):Int):=a9s (by omega)
  refine m9 (α:=Nat×Nat) (fun p=>n5 [(0,.one (.own 0 1 0 m cc)),(1,D v),(2,N j),(7,N (n+2:Nat)),(9,N p.1),(10,N p.2)] [(0,⟨1,m,fun k=> [.v (.int .i64 (u.getD k 0:Nat))],false⟩)] 1)
    (fun p=>gF BR v1 v2 u3 p.1 p.2=gF BR v1 v2 u3 (T / v1) (T%v1)∧p.1≤T∧p.2 < BR) (fun p=>p.1) (T / v1,T%v1) ⟨rfl,hqT,by omega⟩ ?_ ?_
  · refine zW2 ?_ <;> repeat' (with_reducible first|exact trivial|refine j3 ?_ ?_|refine t7 (fun i hi=>?_))
    · rw [F1,F2,E1,wT,b78];exact hq64
    · rw [F1,F2,E1,wT,c2n]
  rintro ⟨t,r⟩ ⟨hg,ht,hr⟩
  dsimp only at hg ht hr
  have hr':r < 1000000000:=hr
  have b2':v2 < 1000000000:=b2
  have b1':v1 < 1000000000:=b1
  have c3':u3 < 1000000000:=c3
  have ht1:1≤t→IntKind.i64.wrap ((t:Int) - 1)=((t - 1:Nat):Int):=fun h=>by rw [IntKind.wrap_i64];omega
  have hrv:IntKind.i64.wrap ((r:Int)+(v1:Int))=((r+v1:Nat):Int):=by rw [←Int.natCast_add,a9s (by omega)]
  have htv:t < 1000000000→IntKind.i64.wrap ((t:Int)*(v2:Int))=((t*v2:Nat):Int):=fun h=>by
    have:t*v2≤999999999*999999999:=Nat.mul_le_mul (by omega) (by omega)
    rw [←Int.natCast_mul,a9s (by omega)]
  have hru:IntKind.i64.wrap (IntKind.i64.wrap ((r:Int)*1000000000)+(u3:Int))=((r*BR+u3:Nat):Int):=by
    simp only [BR]
    rw [show (r:Int)*1000000000=((r*1000000000:Nat):Int) by omega,a9s (by omega),←Int.natCast_add,a9s (by omega)]
  obtain ⟨X,hX⟩:∃X,r*BR+u3=X:=⟨_,rfl⟩
  rw [hX] at hru
  obtain ⟨Y,hY⟩:∃Y,t*v2=Y:=⟨_,rfl⟩
  rw [hY] at htv
  have hBR:BR=1000000000:=rfl
  have hBt:(1000000000≤(t:Int))→BR≤t:=fun h=>by simp only [BR];omega
  have hBt':¬(1000000000≤(t:Int))→¬BR≤t:=fun h=>by simp only [BR];omega
  repeat' (first|refine n7 hc Tryz.results257 ?_|(with_reducible first|exact trivial|refine j3 ?_ ?_|refine m8 (fun h=>?_)|fail)|((first|omega|(simp only [q0,w1,w2,w3,w4,Int.toNat_natCast,Nat.zero_add,and_true];omega));done))
  · rename_i h1 h2
    have h3:=h
    rw [F3,E2,hru,htv (by omega)] at h2
    rw [E1,hrv] at h3
    have hc:BR≤t∨r*BR+u3 < t*v2:=.inr (by rw [hX,hY];omega)
    have ht0 : 1 ≤ t := by rcases Nat.eq_zero_or_pos t with e | e
                           · rw [e,Nat.zero_mul] at hY;omega
                           · exact e
    rw [d0g hc ht0,if_pos (by omega)] at hg
    exact ⟨.inr rfl,j6 (by show N _=N _;rw [ht1 ht0,hg]),_,rfl,fun i _=>rfl⟩
  · rename_i h1 h2
    have h3:=h
    rw [F3,E2,hru,htv (by omega)] at h2
    rw [E1,hrv] at h3
    have hc:BR≤t∨r*BR+u3 < t*v2:=.inr (by rw [hX,hY];omega)
    have ht0 : 1 ≤ t := by rcases Nat.eq_zero_or_pos t with e | e
                           · rw [e,Nat.zero_mul] at hY;omega
                           · exact e
    rw [d0g hc ht0,if_neg (by omega)] at hg
    refine ⟨(t - 1,r+v1),⟨hg,by dsimp only;omega,by dsimp only;omega⟩,by dsimp only;omega,?_⟩
    refine zW2 ?_ <;> repeat' (with_reducible first|exact trivial|refine j3 ?_ ?_|refine t7 (fun i hi=>?_))
    rw [E1];exact hrv
  · rename_i h1
    have h2:=h
    rw [F3,E2,hru,htv (by omega)] at h2
    rw [gF_no (by rw [hX,hY];exact fun hh=>hh.elim (hBt' h1) (by omega))] at hg
    exact ⟨.inr rfl,j6 (by show N _=N _;rw [hg]),_,rfl,fun i _=>rfl⟩
  · rename_i h1
    have h3:=h
    rw [E1,hrv] at h3
    have hc:BR≤t∨r*BR+u3 < t*v2:=.inl (hBt h1)
    have ht0:1≤t:=by omega
    rw [d0g hc ht0,if_pos (by omega)] at hg
    exact ⟨.inr rfl,j6 (by show N _=N _;rw [ht1 ht0,hg]),_,rfl,fun i _=>rfl⟩
  · rename_i h1
    have h3:=h
    rw [E1,hrv] at h3
    have hc:BR≤t∨r*BR+u3 < t*v2:=.inl (hBt h1)
    have ht0:1≤t:=by omega
    rw [d0g hc ht0,if_neg (by omega)] at hg
    refine ⟨(t - 1,r+v1),⟨hg,by dsimp only;omega,by dsimp only;omega⟩,by dsimp only;omega,?_⟩
    refine zW2 ?_ <;> repeat' (with_reducible first|exact trivial|refine j3 ?_ ?_|refine t7 (fun i hi=>?_))
    rw [E1];exact hrv
end Go.Proofs
end
