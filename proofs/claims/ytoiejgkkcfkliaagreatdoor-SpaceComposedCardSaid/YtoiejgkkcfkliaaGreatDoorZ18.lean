/- Lemmas on the program and its library: part Z18. -/
import Derived.Laws.Externs
import Derived.Test.YtoiejgkkcfkliaaGreatDoorZ14
set_option linter.unusedVariables false
set_option linter.unusedSimpArgs false
section
set_option maxHeartbeats 4000000
set_option maxRecDepth 100000
namespace Go.Proofs
open Go.Ax
theorem r7 (l:List Nat) (i:Nat):(y7 l).getD i 0=((l.getD i 0:Nat):Int):=by
  simp only [y7,List.getD_eq_getElem?_getD,List.getElem?_map]
  cases l[i]? <;> rfl
theorem m5 (l:List Nat):(y7 l).length=l.length:=by simp [y7]
theorem c0p (l:List Nat) (n:Nat):(y7 l).take n=y7 (l.take n):=by simp [y7,List.map_take]
theorem w64 {x:Int} (h:-9223372036854775808≤x) (h':x≤9223372036854775807):IntKind.i64.wrap x=x:=by
  rw [IntKind.wrap_i64];omega
theorem j6 {x y:AV} (h:x=y):Ax.Sub x y:=h ▸ Sub.refl x
theorem c0t {l:List Nat} {j:Nat} (hj:j < l.length) (h0:l.getD j 0=0):a04 (l.take (j+1))=a04 (l.take j):=by
  have e:l.take (j+1)=l.take j++ [0]:=by
    rw [List.take_succ_eq_append_getElem hj]
    simp [List.getD_eq_getElem?_getD,hj] at h0
    rw [h0]
  rw [e]
  generalize l.take j=xs
  induction xs with
  | nil=>rfl
  | cons x xs ih=>rw [List.cons_append,a4d,a4d,ih]
theorem c0r {l:List Nat} {j:Nat} (hj:j < l.length) (h0:l.getD j 0≠0):a04 (l.take (j+1))=l.take (j+1):=by
  rw [List.take_succ_eq_append_getElem hj]
  have:l[j]≠0:=by simpa [List.getD_eq_getElem?_getD,hj] using h0
  generalize l.take j=xs
  induction xs with
  | nil=>simp [a4d,a04,this]
  | cons x xs ih=>rw [List.cons_append,a4d,ih];simp
theorem b08 (l:List Nat) (hl:l.length≤4611686018427387904):Ax.Pure Tryz.prog G 268 [L (y7 l)] (L (y7 (a04 l))):=by
  refine r8 Tryz.func268 rfl Tryz.ntmps268 ?_
  intro w0 E0 hc
  repeat' (first|refine zR0 hc Tryz.results268 ?_|(with_reducible first|exact trivial|refine j3 ?_ ?_|refine m8 (fun h=>?_)|fail))
  refine a9b (ι:={ k:Nat // k≤l.length∧a04 (l.take k)=a04 l }) (fun k=>n5 [(0,L (y7 l)),(3,N k.1)] [] 0) (fun k=>k.1) ⟨l.length,Nat.le_refl _,by rw [List.take_length]⟩ ?_ ?_
  · refine zW0 ?_ <;> repeat' (with_reducible first|exact trivial|refine j3 ?_ ?_|refine t7 (fun i hi=>?_))
    rw [m5]
  · rintro ⟨k,hk,ht⟩
    have w1:0 < (k:Int)→IntKind.i64.wrap (k - 1)=((k - 1:Nat):Int):=fun h=>by rw [w64] <;> omega
    have ll:=m5 l
    repeat' (first|refine zR0 hc Tryz.results268 ?_|(with_reducible first|exact trivial|refine j3 ?_ ?_|refine m8 (fun h=>?_)|fail)|(omega;done))
    · rename_i h0
      rw [w1 h0,Int.toNat_natCast,r7] at h
      refine ⟨⟨k - 1,by omega,?_⟩,?_,?_⟩
      · rw [←ht]
        have:=c0t (l:=l) (j:=k - 1) (by omega) (by omega)
        rw [show k - 1+1=k by omega] at this
        exact this.symm
      · refine zW0 ?_ <;> repeat' (with_reducible first|exact trivial|refine j3 ?_ ?_|refine t7 (fun i hi=>?_))
      · show k - 1 < k
        omega
    · rename_i h0
      rw [w1 h0,Int.toNat_natCast,r7] at h
      have:=c0r (l:=l) (j:=k - 1) (by omega) (by omega)
      rw [show k - 1+1=k by omega] at this
      exact j6 (by rw [←ht,this,List.drop_zero,Nat.sub_zero,c0p])
    · obtain rfl:k=0:=by omega
      rw [List.take_zero] at ht
      exact j6 (by rw [←ht];rfl)
end Go.Proofs
end
section
set_option maxHeartbeats 4000000
set_option maxRecDepth 100000
namespace Go.Proofs
open Go.Ax
abbrev Bo (b:Bool):AV:=.one (.v (.bool b))
theorem b9k (n:Int) (h1:-9223372036854775808≤n) (h2:n < 9223372036854775808):Ax.Pure Tryz.prog G 250 [N n] (U (n.natAbs:Nat)):=by
  refine r8 Tryz.func250 rfl Tryz.ntmps250 ?_
  intro w0 E0 hc
  repeat' (first|refine n7 hc Tryz.results250 ?_|(with_reducible first|exact trivial|refine j3 ?_ ?_|refine m8 (fun h=>?_)|fail)|(omega;done))
  · refine j6 ?_
    rw [IntKind.wrap_i64,IntKind.wrap_u64];congr 3;omega
  · refine j6 ?_
    rw [IntKind.wrap_u64];congr 3;omega
theorem a1d (z:Int) (h1:-9223372036854775808≤z) (h2:z < 9223372036854775808):Ax.Pure Tryz.prog G 218 [smA z] (.tup [Bo (decide (z < 0)),L (y7 (f7 BB z.natAbs))]):=by
  refine r8 Tryz.func218 rfl Tryz.ntmps218 ?_
  intro w0 E0 hc
  repeat' (first|refine n7 hc Tryz.results218 ?_|(with_reducible first|exact trivial|refine j3 ?_ ?_|refine m8 (fun h=>?_)|refine c9 (b9k _ ?_ ?_) ?_ ?_|fail)|((first|omega|decide);done))
  · subst h
    exact a0w (Sub.refl _) c4y
  · have e:f7 BB z.natAbs= [z.natAbs]:=b8j (by decide) ⟨by simp only [List.mem_singleton,BB];omega,by simp;omega⟩ (by simp [val])
    exact a0w (Sub.refl _) (a4v (by rw [e]; rfl) (fun i hi => by obtain rfl : i = 0 := by omega
                                                                 rw [e];rfl))
theorem a01 (z:Int) (h:9223372036854775808≤z.natAbs):Ax.Pure Tryz.prog G 218 [bgA z] (.tup [Bo (decide (z < 0)),L (y7 (f7 BB z.natAbs))]):=by
  refine r8 Tryz.func218 rfl Tryz.ntmps218 ?_
  intro w0 E0 hc
  repeat' (first|refine n7 hc Tryz.results218 ?_|(with_reducible first|exact trivial|refine j3 ?_ ?_|refine m8 (fun h=>?_)|fail)|(omega;done))
  refine a0w (j6 ?_) e1z
  by_cases hz:z < 0 <;> simp [hz]
theorem a4m (neg:Bool) (ds:List Nat) (hd:Dig BB ds) (hl:ds.length≤4611686018427387904):Ax.Pure Tryz.prog G 219 [Bo neg,L (y7 ds)] (n8 (if neg then -((val BB ds:Nat):Int) else ((val BB ds:Nat):Int))):=by
  have ll:=m5 ds
  have g0:=r7 ds 0
  have hds:f7 BB (val BB ds)=ds:=b4v (by decide) hd
  refine r8 Tryz.func219 rfl Tryz.ntmps219 ?_
  intro w0 E0 hc
  repeat' (first|refine n7 hc Tryz.results219 ?_|(with_reducible first|exact trivial|refine j3 ?_ ?_|refine m8 (fun h=>?_)|fail)|(omega;done))
  · obtain rfl:ds= []:=List.length_eq_zero_iff.1 (by omega)
    exact a2z (by cases neg <;> rfl) (by cases neg <;> decide) (by cases neg <;> decide)
  · have hv:val BB ds=ds.getD 0 0:=b8z (by omega)
    subst h
    simp only [if_true,hv,g0]
    exact a2z (by rw [IntKind.wrap_i64,IntKind.wrap_i64];omega) (by omega) (by omega)
  · have hv:val BB ds=ds.getD 0 0:=b8z (by omega)
    rename_i hneg _
    subst hneg
    simp only [Bool.false_eq_true,if_false,hv,g0]
    exact a2z (by rw [IntKind.wrap_i64];omega) (by omega) (by omega)
  · have hv:val BB ds=ds.getD 0 0:=b8z (by omega)
    subst h
    simp only [if_true]
    exact b8y (by rw [hv];omega) (by rw [if_pos (by rw [hv];omega)]) (by rw [Int.natAbs_neg,Int.natAbs_natCast,hds])
  · have hv:val BB ds=ds.getD 0 0:=b8z (by omega)
    subst h
    simp only [Bool.false_eq_true,if_false]
    exact b8y (by rw [hv];omega) (by rw [if_neg (by rw [hv];omega)]) (by rw [Int.natAbs_natCast,hds])
  · have hv:=d1o hd (by omega)
    subst h
    simp only [if_true]
    have hv':18446744073709551616≤val BB ds:=hv
    exact b8y (by omega) (by rw [if_pos (by omega)]) (by rw [Int.natAbs_neg,Int.natAbs_natCast,hds])
  · have hv:=d1o hd (by omega)
    subst h
    simp only [Bool.false_eq_true,if_false]
    have hv':18446744073709551616≤val BB ds:=hv
    exact b8y (by omega) (by rw [if_neg (by omega)]) (by rw [Int.natAbs_natCast,hds])
theorem c3u {neg:Bool} {n:Nat} {z:Int} (h:(if neg then -(n:Int) else (n:Int))=z):Ax.Sub (n8 (if neg then -((val BB (f7 BB n):Nat):Int) else ((val BB (f7 BB n):Nat):Int))) (n8 z):=by
  rw [j8 (by decide),h];exact Sub.refl _
theorem c93 (z:Int) (h1:-9223372036854775808≤z) (h2:z < 9223372036854775808):Ax.Pure Tryz.prog G 129 [smA z] (n8 (-z)):=by
  have hd:=j5 (B:=BB) (by decide) z.natAbs
  have hl:(f7 BB z.natAbs).length≤1:=a4z (by simp only [BB];omega)
  refine r8 Tryz.func129 rfl Tryz.ntmps129 ?_
  intro w0 E0 hc
  repeat' (first|refine n7 hc Tryz.results129 ?_|(with_reducible first|exact trivial|refine j3 ?_ ?_|refine m8 (fun h=>?_)|refine c9 (a1d _ ?_ ?_) ?_ ?_|refine c9 (a4m _ _ ?_ ?_) ?_ ?_|fail)|((first|exact hd|omega);done))
  · exact a2z (by rw [IntKind.wrap_i64];omega) (by omega) (by omega)
  · refine c3u ?_
    by_cases h0:z < 0 <;> simp [h0] <;> omega
theorem c92 (z:Int) (h:9223372036854775808≤z.natAbs) (hz:zl z≤1000000000000):Ax.Pure Tryz.prog G 129 [bgA z] (n8 (-z)):=by
  have hd:=j5 (B:=BB) (by decide) z.natAbs
  have hl:(f7 BB z.natAbs).length≤1000000000000:=hz
  refine r8 Tryz.func129 rfl Tryz.ntmps129 ?_
  intro w0 E0 hc
  repeat' (first|refine n7 hc Tryz.results129 ?_|(with_reducible first|exact trivial|refine j3 ?_ ?_|refine m8 (fun h=>?_)|refine c9 (a01 _ ?_) ?_ ?_|refine c9 (a4m _ _ ?_ ?_) ?_ ?_|fail)|((first|exact hd|omega);done))
  refine c3u ?_
  by_cases h0:z < 0 <;> simp [h0] <;> omega
theorem c1v (z:Int) (hz:zl z≤1000000000000):Ax.Pure Tryz.prog G 129 [n8 z] (n8 (-z)):=
  a00 [] [] (c93 z) (fun h=>c92 z h hz)
theorem d5i (z:Int):Ax.Pure Tryz.prog G 128 [smA z] (N z.sign):=by
  refine r8 Tryz.func128 rfl Tryz.ntmps128 ?_
  intro w0 E0 hc
  repeat' (first|refine n7 hc Tryz.results128 ?_|(with_reducible first|exact trivial|refine j3 ?_ ?_|refine m8 (fun h=>?_)|fail)|(omega;done))
  all_goals exact j6 (by rw [c7d])
theorem d5h (z:Int) (h:9223372036854775808≤z.natAbs):Ax.Pure Tryz.prog G 128 [bgA z] (N z.sign):=by
  refine r8 Tryz.func128 rfl Tryz.ntmps128 ?_
  intro w0 E0 hc
  repeat' (first|refine n7 hc Tryz.results128 ?_|(with_reducible first|exact trivial|refine j3 ?_ ?_|refine m8 (fun h=>?_)|fail)|(omega;done))
  all_goals exact j6 (by rw [c7d,d69 h,d3g])
theorem a29 (z:Int):Ax.Pure Tryz.prog G 128 [n8 z] (N z.sign):=
  a00 [] [] (fun _ _=>d5i z) (d5h z)
theorem d78 (z:Int) (h1:-9223372036854775808≤z) (h2:z < 9223372036854775808):Ax.Pure Tryz.prog G 152 [smA z] (n8 z.natAbs):=by
  refine r8 Tryz.func152 rfl Tryz.ntmps152 ?_
  intro w0 E0 hc
  repeat' (first|refine n7 hc Tryz.results152 ?_|(with_reducible first|exact trivial|refine j3 ?_ ?_|refine m8 (fun h=>?_)|refine c9 (c93 _ ?_ ?_) ?_ ?_|fail)|(omega;done))
  · exact a0f (by omega)
  · exact a2z (by omega) (by omega) (by omega)
theorem d77 (z:Int) (h:9223372036854775808≤z.natAbs) (hz:zl z≤1000000000000):Ax.Pure Tryz.prog G 152 [bgA z] (n8 z.natAbs):=by
  refine r8 Tryz.func152 rfl Tryz.ntmps152 ?_
  intro w0 E0 hc
  repeat' (first|refine n7 hc Tryz.results152 ?_|(with_reducible first|exact trivial|refine j3 ?_ ?_|refine m8 (fun h=>?_)|refine c9 (c92 _ ?_ ?_) ?_ ?_|fail)|(omega;done))
  · exact a0f (by split at h <;> omega)
  · have h0:¬z < 0:=by split at h <;> omega
    have e:((z.natAbs:Nat):Int)=z:=by omega
    rw [e]
    rename_i hb
    exact b0l hb
theorem d4m (z:Int) (hz:zl z≤1000000000000):Ax.Pure Tryz.prog G 152 [n8 z] (n8 z.natAbs):=
  a00 [] [] (d78 z) (fun h=>d77 z h hz)
theorem b4p (z:Int) (h1:-9223372036854775808≤z) (h2:z < 9223372036854775808):Ax.Pure Tryz.prog G 126 [N z] (n8 z):=by
  refine r8 Tryz.func126 rfl Tryz.ntmps126 ?_
  intro w0 E0 hc
  repeat' (first|refine n7 hc Tryz.results126 ?_|(with_reducible first|exact trivial|refine j3 ?_ ?_|refine m8 (fun h=>?_)|fail)|(omega;done))
  all_goals exact a8f h1 h2
end Go.Proofs
end
section
set_option maxHeartbeats 4000000
set_option maxRecDepth 100000
namespace Go.Proofs
open Go.Ax
theorem b13 (x y c:Int) (h:0≤x∧0≤y∧0≤c∧c≤1):c5d Tryz.prog 277 [U x,U y,U c] (.tup [U ((x+y+c)%18446744073709551616),U ((x+y+c) / 18446744073709551616)]):=by
  refine ⟨fun E w vs hvs=>?_⟩
  obtain ⟨_,_,rfl,⟨_,h1,_⟩,_,_,rfl,⟨_,h2,_⟩,_,_,rfl,⟨_,h3,_⟩,rfl⟩:=hvs
  simp only [List.cons.injEq,and_true] at h1 h2 h3
  subst h1 h2 h3
  refine ⟨_,?_,_,rfl,_,_,rfl,⟨rfl,rfl,rfl⟩,_,_,rfl,⟨rfl,rfl,rfl⟩,rfl⟩
  rw [run_callFunc_extern Tryz.func277 (by kernel_rfl) (by kernel_rfl) (by kernel_rfl) (e:=add64Entry) (by kernel_rfl),run_add64 x y c h.1 h.2.1 h.2.2.1 h.2.2.2]
  rfl
def c7h:Array Value→Sem Value:=fun args=>do
  let (x,y,b) ←Extern.MathBitsCarry.three "Sub64" args
  pure (Extern.MathBitsCarry.pair ((x+Extern.MathBitsCarry.m64 - y - b)%Extern.MathBitsCarry.m64) (if x < y+b then 1 else 0))
theorem d9g {P:Program} (x y b:Nat) (hb:b≤1) (w:World) :
    (c7h #[.int .u64 x,.int .u64 y,.int .u64 b]).run P w =
      .ok (.tuple #[.int .u64 (((x+18446744073709551616 - y - b)%18446744073709551616:Nat):Int),.int .u64 ((if x < y+b then 1 else 0:Nat):Int)]) w:=by
  have:b=0∨b=1:=by omega
  rcases this with rfl|rfl <;> rfl
theorem c95 (x y c:Int) (h:0≤x∧0≤y∧0≤c∧c≤1):c5d Tryz.prog 278 [U x,U y,U c] (.tup [U (((x.toNat+18446744073709551616 - y.toNat - c.toNat)%18446744073709551616:Nat):Int),U ((if x.toNat < y.toNat+c.toNat then 1 else 0:Nat):Int)]):=by
  obtain ⟨h1,h2,h3,h4⟩:=h
  obtain ⟨x,rfl⟩:=Int.eq_ofNat_of_zero_le h1
  obtain ⟨y,rfl⟩:=Int.eq_ofNat_of_zero_le h2
  obtain ⟨c,rfl⟩:=Int.eq_ofNat_of_zero_le h3
  refine ⟨fun E w vs hvs=>?_⟩
  obtain ⟨_,_,rfl,⟨_,h1,_⟩,_,_,rfl,⟨_,h2,_⟩,_,_,rfl,⟨_,h3,_⟩,rfl⟩:=hvs
  simp only [List.cons.injEq,and_true] at h1 h2 h3
  subst h1 h2 h3
  refine ⟨_,?_,_,rfl,_,_,rfl,⟨rfl,rfl,rfl⟩,_,_,rfl,⟨rfl,rfl,rfl⟩,rfl⟩
  rw [run_callFunc_extern Tryz.func278 (by kernel_rfl) (by kernel_rfl) (by kernel_rfl) (e:=c7h) (by kernel_rfl),d9g x y c (by omega)]
  rfl
theorem a3b (x y:List Nat) (hx:Dig BB x) (hy:Dig BB y) (lx:x.length≤4611686018427387904):Ax.Pure Tryz.prog G 253 [L (y7 x),L (y7 y)] (N (a5v (val BB x) (val BB y))):=by
  refine r8 Tryz.func253 rfl Tryz.ntmps253 ?_
  intro w0 E0 hc
  repeat' (first|refine zR0 hc Tryz.results253 ?_|(with_reducible first|exact trivial|refine j3 ?_ ?_|refine m8 (fun h=>?_)|fail))
  · rw [m5,m5] at h
    have:=a93 (by decide) hx hy (by omega)
    exact j6 (by rw [a5v,if_pos this])
  · rename_i h0
    rw [m5,m5] at h h0
    have:=a93 (by decide) hy hx (by omega)
    exact j6 (by rw [a5v,if_neg (by omega),if_pos this])
  rw [m5,m5] at h
  have hl:x.length=y.length:=by omega
  refine a9b (ι:={ k:Nat // k≤x.length∧x.drop k=y.drop k }) (fun k=>n5 [(0,L (y7 x)),(1,L (y7 y)),(5,N ((k.1:Int) - 1))] [] 0) (fun k=>k.1) ⟨x.length,Nat.le_refl _,by rw [List.drop_length,hl,List.drop_length]⟩ ?_ ?_
  · refine zW0 ?_ <;> repeat' (with_reducible first|exact trivial|refine j3 ?_ ?_|refine t7 (fun i hi=>?_))
    rw [m5,w64 (by omega) (by omega)]
  · clear h
    rintro ⟨k,hk,he⟩
    have gx:0 < k→(y7 x).getD ((k:Int) - 1).toNat 0=((x.getD (k - 1) 0:Nat):Int):=fun h=>by rw [r7];congr 2;omega
    have gy:0 < k→(y7 y).getD ((k:Int) - 1).toNat 0=((y.getD (k - 1) 0:Nat):Int):=fun h=>by rw [r7];congr 2;omega
    have lx':=m5 x
    have ly':=m5 y
    repeat' (first|refine zR0 hc Tryz.results253 ?_|(with_reducible first|exact trivial|refine j3 ?_ ?_|refine m8 (fun h=>?_)|fail)|(omega;done))
    · rw [gx (by omega),gy (by omega)] at h
      have:=c3p hx.lt hl (k:=k - 1) (by omega) (by rw [show k - 1+1=k by omega];exact he) (by omega)
      exact j6 (by rw [a5v,if_pos this])
    · rename_i h1
      rw [gx (by omega),gy (by omega)] at h h1
      have:=c3p hy.lt hl.symm (k:=k - 1) (by omega) (by rw [show k - 1+1=k by omega];exact he.symm) (by omega)
      exact j6 (by rw [a5v,if_neg (by omega),if_pos this])
    · rw [gx (by omega),gy (by omega)] at h
      refine ⟨⟨k - 1,by omega,b4y (by omega) hl (by rw [show k - 1+1=k by omega];exact he) (by omega)⟩,?_,?_⟩
      · refine zW0 ?_ <;> repeat' (with_reducible first|exact trivial|refine j3 ?_ ?_|refine t7 (fun i hi=>?_))
      · show k - 1 < k
        omega
    · obtain rfl:k=0:=by omega
      have:x=y:=he
      exact j6 (by rw [this,a5v,if_neg (by omega),if_neg (by omega)])
end Go.Proofs
end
section
set_option maxHeartbeats 4000000
set_option maxRecDepth 100000
namespace Go.Proofs
open Go.Ax
theorem a9y (x y:List Nat) (hx:∀d∈x,d < BB) (hy:∀d∈y,d < BB) (lx:x.length≤1000000000000) (ly:y.length≤1000000000000):Ax.Pure Tryz.prog G 252 [L (y7 x),L (y7 y)] (L (y7 (f7 BB (val BB x+val BB y)))):=by
  have lx':=m5 x
  have ly':=m5 y
  refine r8 Tryz.func252 rfl Tryz.ntmps252 ?_
  intro w0 E0 hc
  repeat' (first|(with_reducible first|refine j0 (x:=.region _ _ _) ?_|refine j0 (x:=.seq _ _) ?_|refine j0 (x:=.block _ _) ?_|refine j0 (x:=.loop _) ?_|refine j0 (x:=.skip) ?_|refine zr0 hc ?_|refine zm0 hc ?_|refine i6 ?_|refine zgo ?_|refine zbn ?_|refine zge Tryz.results252 ?_|refine Sub.refl _|refine f9|refine a42 (out':=?_) ?_|refine a40 (y:=?_) ?_|refine a41 (eo':=?_) ?_)|(with_reducible refine f6 ?_ ?_;focus (first|decide|omega))|(with_reducible first|refine zg2 ?_ ?_|refine zbo ?_|refine zg3 ?_ (fun h=>?_) (fun h=>?_)|refine zg4 (fun h=>?_) (fun h=>?_)|fail)|(omega;done))
  refine a4j (α:=List Nat×List Nat) (fun p=>n5 [(0,L (y7 p.1)),(1,L (y7 p.2))] [] 0) (fun p=>p.2.length≤p.1.length∧p.1.length≤1000000000000∧(∀d∈p.1,d < BB)∧(∀d∈p.2,d < BB)∧val BB p.1+val BB p.2=val BB x+val BB y) ?_ ?_
  · repeat' (first|refine zR0 hc Tryz.results252 ?_|(with_reducible first|exact trivial|refine j3 ?_ ?_|refine m8 (fun h=>?_)|fail)|(omega;done))
    · refine ⟨(y,x),⟨?_,ly,hy,hx,Nat.add_comm _ _⟩,?_⟩
      · dsimp only;omega
      · refine zW0 ?_ <;> repeat' (with_reducible first|exact trivial|refine j3 ?_ ?_|refine t7 (fun i hi=>?_))
    · refine ⟨(x,y),⟨?_,lx,hx,hy,rfl⟩,?_⟩
      · dsimp only;omega
      · refine zW0 ?_ <;> repeat' (with_reducible first|exact trivial|refine j3 ?_ ?_|refine t7 (fun i hi=>?_))
  rintro ⟨x',y'⟩ ⟨hl,lx,hx,hy,he⟩
  dsimp only at hl lx hx hy he
  rw [←he]
  clear he lx' ly'
  have lx':=m5 x'
  have ly':=m5 y'
  have w1:(IntKind.i64.wrap (↑(y7 x').length+1)).toNat=x'.length+1:=by rw [IntKind.wrap_i64];omega
  repeat' (first|refine zR0 hc Tryz.results252 ?_|(with_reducible first|exact trivial|refine j3 ?_ ?_|refine m8 (fun h=>?_)|fail)|(first|omega|(simp only [IntKind.wrap_i64,IntKind.wrap_u64,Bool.and_self,true_and,and_true];omega);done))
  refine m9 (α:=List Nat×Nat) (fun p=>n5 [(0,L (y7 x')),(1,L (y7 y')),(5,.one (.own 0 1 0 (x'.length+1) (x'.length+1))),(6,U p.2),(21,N x'.length),(22,N p.1.length)] [(0,⟨1,x'.length+1,fun i=> [.v (.int .u64 (p.1.getD i 0:Nat))],false⟩)] 1)
    (fun p=>a5r BB x' y' p.1 p.2) (fun p=>x'.length - p.1.length) ([],0) (a5r.nil _ _) ?_ ?_
  · refine zW0 ?_ <;> repeat' (with_reducible first|exact trivial|refine j3 ?_ ?_|refine t7 (fun i hi=>?_))
    all_goals rfl
  · rintro ⟨o,c⟩ hA
    dsimp only at hA
    have gx:=r7 x' o.length
    have gy:=r7 y' o.length
    have hc1:=hA.hc
    have ho:=hA.len
    repeat' (first|(with_reducible first|refine j0 ?_|refine zwk ?_|refine i6 ?_|refine zgo ?_|refine zbn ?_|refine zge Tryz.results252 ?_|refine Sub.refl _|refine f9|refine a42 (out':=?_) ?_|refine a40 (y:=?_) ?_|refine a41 (eo':=?_) ?_)|(with_reducible refine zrs [14] hc ?_ ?_;focus (with_unfolding_all rfl))|(with_reducible refine zrm [14] hc mixed ?_ ?_;focus (with_unfolding_all rfl))|(with_reducible refine f6 ?_ ?_;focus (first|decide|omega))|(with_reducible first|refine zg2 ?_ ?_|refine c7s (b13 _ _ _ ?_) ?_ ?_|refine zbo ?_|refine zg3 ?_ (fun h=>?_) (fun h=>?_)|refine zg4 (fun h=>?_) (fun h=>?_)|fail)|(first|omega|(simp only [IntKind.wrap_i64,IntKind.wrap_u64,Bool.and_self,true_and,and_true];omega);done))
    · refine ⟨(_,_),a5r.step (by decide) hA hx hy (by omega),?_,?_⟩
      · simp only [List.length_append,List.length_singleton];omega
      · refine zW0 ?_ <;> repeat' (with_reducible first|exact trivial|refine j3 ?_ ?_|refine t7 (fun i hi=>?_))
        · rw [gx,gy];simp only [BB];omega
        · exact b01 _ (by rw [Nat.zero_add]) (by rw [gx,gy];simp only [BB];omega)
    · have e0:y'.getD o.length 0=0:=by
        rw [List.getD_eq_getElem?_getD,List.getElem?_eq_none (by omega)];rfl
      refine ⟨(_,_),a5r.step (by decide) hA hx hy (by omega),?_,?_⟩
      · simp only [List.length_append,List.length_singleton];omega
      · refine zW0 ?_ <;> repeat' (with_reducible first|exact trivial|refine j3 ?_ ?_|refine t7 (fun i hi=>?_))
        · rw [gx,e0];simp only [BB];omega
        · exact b01 _ (by rw [Nat.zero_add]) (by rw [gx,e0];simp only [BB];omega)
    · have hlo:o.length=x'.length:=by omega
      have hcB:c < BB:=by simp only [BB];omega
      refine a9w hc 0 5 (x'.length+1) .u64 (y7 (o++ [c])) [] [] 1 [] [] ?_ (Nat.le_refl _) (by simp [hlo]) rfl rfl (fun _ h=>by cases h) ?_
      · refine zW0 ?_ <;> repeat' (with_reducible first|exact trivial|refine j3 ?_ ?_|refine t7 (fun i hi=>?_))
        rw [r7]
        exact b01 _ (by rw [Nat.zero_add,lx',hlo]) rfl
      · repeat' (first|refine zR0 hc Tryz.results252 ?_|(with_reducible first|exact trivial|refine j3 ?_ ?_|refine m8 (fun h=>?_)|refine c9 (b08 _ ?_) ?_ ?_|fail)|(first|omega|(simp only [IntKind.wrap_i64,IntKind.wrap_u64,Bool.and_self,true_and,and_true];omega);done))
        · rw [List.length_append,List.length_singleton];omega
        · exact j6 (by rw [a0r (by decide) (a2d hA.lt hcB),hA.done hlo hl])
end Go.Proofs
end
section
set_option maxHeartbeats 4000000
set_option maxRecDepth 100000
namespace Go.Proofs
open Go.Ax
theorem a90 (x y:List Nat) (hx:∀d∈x,d < BB) (hy:∀d∈y,d < BB) (lx:x.length≤1000000000000) (hl:y.length≤x.length) (hle:val BB y≤val BB x):Ax.Pure Tryz.prog G 254 [L (y7 x),L (y7 y)] (L (y7 (f7 BB (val BB x - val BB y)))):=by
  have lx':=m5 x
  have ly':=m5 y
  refine r8 Tryz.func254 rfl Tryz.ntmps254 ?_
  intro w0 E0 hc
  repeat' (first|refine zR0 hc Tryz.results254 ?_|(with_reducible first|exact trivial|refine j3 ?_ ?_|refine m8 (fun h=>?_)|fail)|(first|omega|(simp only [IntKind.wrap_i64,IntKind.wrap_u64,Bool.and_self,true_and,and_true];omega);done))
  refine m9 (α:=List Nat×Nat) (fun p=>n5 [(0,L (y7 x)),(1,L (y7 y)),(5,.one (.own 0 1 0 x.length x.length)),(6,U p.2),(13,N x.length),(14,N p.1.length)] [(0,⟨1,x.length,fun i=> [.v (.int .u64 (p.1.getD i 0:Nat))],false⟩)] 1)
    (fun p=>a9a BB x y p.1 p.2) (fun p=>x.length - p.1.length) ([],0) (a9a.nil _ _) ?_ ?_
  · refine zW0 ?_ <;> repeat' (with_reducible first|exact trivial|refine j3 ?_ ?_|refine t7 (fun i hi=>?_))
    all_goals rfl
  · rintro ⟨o,c⟩ hA
    dsimp only at hA
    have gx:=r7 x o.length
    have gy:=r7 y o.length
    have hc1:=hA.hc
    have ho:=hA.len
    repeat' (first|(with_reducible first|refine j0 ?_|refine zwk ?_|refine i6 ?_|refine zgo ?_|refine zbn ?_|refine zge Tryz.results254 ?_|refine Sub.refl _|refine f9|refine a42 (out':=?_) ?_|refine a40 (y:=?_) ?_|refine a41 (eo':=?_) ?_)|(with_reducible refine zrs [11] hc ?_ ?_;focus (with_unfolding_all rfl))|(with_reducible refine zrm [11] hc mixed ?_ ?_;focus (with_unfolding_all rfl))|(with_reducible refine f6 ?_ ?_;focus (first|decide|omega))|(with_reducible first|refine zg2 ?_ ?_|refine c7s (c95 _ _ _ ?_) ?_ ?_|refine zbo ?_|refine zg3 ?_ (fun h=>?_) (fun h=>?_)|refine zg4 (fun h=>?_) (fun h=>?_)|fail)|(first|omega|(simp only [IntKind.wrap_i64,IntKind.wrap_u64,Bool.and_self,true_and,and_true];omega);done))
    · refine ⟨(_,_),a9a.step (by decide) hA hx hy (by omega),?_,?_⟩
      · simp only [List.length_append,List.length_singleton];omega
      · refine zW0 ?_ <;> repeat' (with_reducible first|exact trivial|refine j3 ?_ ?_|refine t7 (fun i hi=>?_))
        · simp only [Int.toNat_natCast,gx,gy];rfl
        · exact b01 _ (by rw [Nat.zero_add]) (by simp only [Int.toNat_natCast,gx,gy])
    · have e0:y.getD o.length 0=0:=by
        rw [List.getD_eq_getElem?_getD,List.getElem?_eq_none (by omega)];rfl
      refine ⟨(_,_),a9a.step (by decide) hA hx hy (by omega),?_,?_⟩
      · simp only [List.length_append,List.length_singleton];omega
      · refine zW0 ?_ <;> repeat' (with_reducible first|exact trivial|refine j3 ?_ ?_|refine t7 (fun i hi=>?_))
        · simp only [Int.toNat_natCast,gx,Int.toNat_zero];rw [e0];rfl
        · exact b01 _ (by rw [Nat.zero_add]) (by simp only [Int.toNat_natCast,gx,e0,Int.toNat_zero])
    · have hlo:o.length=x.length:=by omega
      refine a9w hc 0 5 x.length .u64 (y7 o) [] [] 1 [] [] ?_ (Nat.le_refl _) (by simp [hlo]) rfl rfl (fun _ h=>by cases h) ?_
      · refine zW0 ?_ <;> repeat' (with_reducible first|exact trivial|refine j3 ?_ ?_|refine t7 (fun i hi=>?_))
        rw [r7]
      · repeat' (first|refine zR0 hc Tryz.results254 ?_|(with_reducible first|exact trivial|refine j3 ?_ ?_|refine m8 (fun h=>?_)|refine c9 (b08 _ ?_) ?_ ?_|fail)|(first|omega|(simp only [IntKind.wrap_i64,IntKind.wrap_u64,Bool.and_self,true_and,and_true];omega);done))
        · exact j6 (by rw [a0r (by decide) hA.lt,hA.done hlo hl hle])
end Go.Proofs
end
section
set_option maxHeartbeats 4000000
set_option maxRecDepth 100000
namespace Go.Proofs
open Go.Ax
theorem a2i {neg:Bool} {m:Nat} {n:Nat} {z:Int} (hm:m=n) (h:(if neg then -(n:Int) else (n:Int))=z):Ax.Sub (n8 (if neg then -((val BB (f7 BB m):Nat):Int) else ((val BB (f7 BB m):Nat):Int))) (n8 z):=by
  subst hm;exact c3u h
theorem d4q (x y:Int) (h1x:-9223372036854775808≤x) (h2x:x < 9223372036854775808) (h1y:-9223372036854775808≤y) (h2y:y < 9223372036854775808) (hx:zl x≤100000000000) (hy:zl y≤100000000000):Ax.Pure Tryz.prog G 216 [smA x,smA y] (n8 (x+y)):=by
  have dx:=j5 (B:=BB) (by decide) x.natAbs
  have dy:=j5 (B:=BB) (by decide) y.natAbs
  have lx:(f7 BB x.natAbs).length≤100000000000:=hx
  have ly:(f7 BB y.natAbs).length≤100000000000:=hy
  have vx:=j8 (B:=BB) (by decide) x.natAbs
  have vy:=j8 (B:=BB) (by decide) y.natAbs
  have d1:=j5 (B:=BB) (by decide) (val BB (f7 BB x.natAbs)+val BB (f7 BB y.natAbs))
  have d2:=j5 (B:=BB) (by decide) (val BB (f7 BB x.natAbs) - val BB (f7 BB y.natAbs))
  have d3:=j5 (B:=BB) (by decide) (val BB (f7 BB y.natAbs) - val BB (f7 BB x.natAbs))
  have l1:(f7 BB (val BB (f7 BB x.natAbs)+val BB (f7 BB y.natAbs))).length≤4611686018427387904:=by
    rw [vx,vy]
    have:=b7q (x.natAbs:Nat) (y.natAbs:Nat)
    have e1:zl ((x.natAbs:Nat):Int)=zl x:=rfl
    have e2:zl ((y.natAbs:Nat):Int)=zl y:=rfl
    have e3:zl (((x.natAbs:Nat):Int)+((y.natAbs:Nat):Int))=(f7 BB (x.natAbs+y.natAbs)).length:=rfl
    omega
  have l2:(f7 BB (val BB (f7 BB x.natAbs) - val BB (f7 BB y.natAbs))).length≤4611686018427387904:=by
    rw [vx,vy]
    have:=a13 (x:=((x.natAbs - y.natAbs:Nat):Int)) (y:=x) (by omega)
    have e3:zl ((x.natAbs - y.natAbs:Nat):Int)=(f7 BB (x.natAbs - y.natAbs)).length:=rfl
    omega
  have l3:(f7 BB (val BB (f7 BB y.natAbs) - val BB (f7 BB x.natAbs))).length≤4611686018427387904:=by
    rw [vx,vy]
    have:=a13 (x:=((y.natAbs - x.natAbs:Nat):Int)) (y:=y) (by omega)
    have e3:zl ((y.natAbs - x.natAbs:Nat):Int)=(f7 BB (y.natAbs - x.natAbs)).length:=rfl
    omega
  refine r8 Tryz.func216 rfl Tryz.ntmps216 ?_
  intro w0 E0 hc
  repeat' (first|refine n7 hc Tryz.results216 ?_|(with_reducible first|exact trivial|refine j3 ?_ ?_|refine m8 (fun h=>?_)|refine c9 (a1d _ ?_ ?_) ?_ ?_|refine c9 (a01 _ ?_) ?_ ?_|refine c9 (a9y _ _ ?_ ?_ ?_ ?_) ?_ ?_|refine c9 (a3b _ _ ?_ ?_ ?_) ?_ ?_|refine c9 (a90 _ _ ?_ ?_ ?_ ?_ ?_) ?_ ?_|refine c9 (a4m _ _ ?_ ?_) ?_ ?_|fail)|((first|exact dx.lt|exact dy.lt|exact dx|exact dy|exact d1|exact d2|exact d3|exact l1|exact l2|exact l3|exact a52 h|exact a7p dx dy (a52 h)|exact Nat.le_of_lt (a54 h)|exact a7p dy dx (Nat.le_of_lt (a54 h))|omega);done))
  · have hw:IntKind.i64.wrap (x+y)=x+y:=by
      rw [IntKind.wrap_i64] at h ⊢
      by_cases h0:0 < y <;> simp [h0] at h <;> omega
    have hw2:=hw
    rw [IntKind.wrap_i64] at hw2
    exact a2z hw (by omega) (by omega)
  · refine a2i (by rw [vx,vy]) ?_
    by_cases h0:x < 0 <;> by_cases h3:y < 0 <;> simp [h0,h3] at h ⊢ <;> omega
  · have hle:=a52 h
    rename_i g
    refine a2i (by rw [vx,vy]) ?_
    rw [vx,vy] at hle
    by_cases h0:x < 0 <;> by_cases h3:y < 0 <;> simp [h0,h3] at g ⊢ <;> omega
  · have hle:=a54 h
    rename_i g
    refine a2i (by rw [vx,vy]) ?_
    rw [vx,vy] at hle
    by_cases h0:x < 0 <;> by_cases h3:y < 0 <;> simp [h0,h3] at g ⊢ <;> omega
theorem d4p (x y:Int) (h1x:-9223372036854775808≤x) (h2x:x < 9223372036854775808) (hby:9223372036854775808≤y.natAbs) (hx:zl x≤100000000000) (hy:zl y≤100000000000):Ax.Pure Tryz.prog G 216 [smA x,bgA y] (n8 (x+y)):=by
  have dx:=j5 (B:=BB) (by decide) x.natAbs
  have dy:=j5 (B:=BB) (by decide) y.natAbs
  have lx:(f7 BB x.natAbs).length≤100000000000:=hx
  have ly:(f7 BB y.natAbs).length≤100000000000:=hy
  have vx:=j8 (B:=BB) (by decide) x.natAbs
  have vy:=j8 (B:=BB) (by decide) y.natAbs
  have d1:=j5 (B:=BB) (by decide) (val BB (f7 BB x.natAbs)+val BB (f7 BB y.natAbs))
  have d2:=j5 (B:=BB) (by decide) (val BB (f7 BB x.natAbs) - val BB (f7 BB y.natAbs))
  have d3:=j5 (B:=BB) (by decide) (val BB (f7 BB y.natAbs) - val BB (f7 BB x.natAbs))
  have l1:(f7 BB (val BB (f7 BB x.natAbs)+val BB (f7 BB y.natAbs))).length≤4611686018427387904:=by
    rw [vx,vy]
    have:=b7q (x.natAbs:Nat) (y.natAbs:Nat)
    have e1:zl ((x.natAbs:Nat):Int)=zl x:=rfl
    have e2:zl ((y.natAbs:Nat):Int)=zl y:=rfl
    have e3:zl (((x.natAbs:Nat):Int)+((y.natAbs:Nat):Int))=(f7 BB (x.natAbs+y.natAbs)).length:=rfl
    omega
  have l2:(f7 BB (val BB (f7 BB x.natAbs) - val BB (f7 BB y.natAbs))).length≤4611686018427387904:=by
    rw [vx,vy]
    have:=a13 (x:=((x.natAbs - y.natAbs:Nat):Int)) (y:=x) (by omega)
    have e3:zl ((x.natAbs - y.natAbs:Nat):Int)=(f7 BB (x.natAbs - y.natAbs)).length:=rfl
    omega
  have l3:(f7 BB (val BB (f7 BB y.natAbs) - val BB (f7 BB x.natAbs))).length≤4611686018427387904:=by
    rw [vx,vy]
    have:=a13 (x:=((y.natAbs - x.natAbs:Nat):Int)) (y:=y) (by omega)
    have e3:zl ((y.natAbs - x.natAbs:Nat):Int)=(f7 BB (y.natAbs - x.natAbs)).length:=rfl
    omega
  refine r8 Tryz.func216 rfl Tryz.ntmps216 ?_
  intro w0 E0 hc
  repeat' (first|refine n7 hc Tryz.results216 ?_|(with_reducible first|exact trivial|refine j3 ?_ ?_|refine m8 (fun h=>?_)|refine c9 (a1d _ ?_ ?_) ?_ ?_|refine c9 (a01 _ ?_) ?_ ?_|refine c9 (a9y _ _ ?_ ?_ ?_ ?_) ?_ ?_|refine c9 (a3b _ _ ?_ ?_ ?_) ?_ ?_|refine c9 (a90 _ _ ?_ ?_ ?_ ?_ ?_) ?_ ?_|refine c9 (a4m _ _ ?_ ?_) ?_ ?_|fail)|((first|exact dx.lt|exact dy.lt|exact dx|exact dy|exact d1|exact d2|exact d3|exact l1|exact l2|exact l3|exact a52 h|exact a7p dx dy (a52 h)|exact Nat.le_of_lt (a54 h)|exact a7p dy dx (Nat.le_of_lt (a54 h))|omega);done))
  · refine a2i (by rw [vx,vy]) ?_
    by_cases h0:x < 0 <;> by_cases h3:y < 0 <;> simp [h0,h3] at h ⊢ <;> omega
  · have hle:=a52 h
    rename_i g
    refine a2i (by rw [vx,vy]) ?_
    rw [vx,vy] at hle
    by_cases h0:x < 0 <;> by_cases h3:y < 0 <;> simp [h0,h3] at g ⊢ <;> omega
  · have hle:=a54 h
    rename_i g
    refine a2i (by rw [vx,vy]) ?_
    rw [vx,vy] at hle
    by_cases h0:x < 0 <;> by_cases h3:y < 0 <;> simp [h0,h3] at g ⊢ <;> omega
theorem d4o (x y:Int) (hbx:9223372036854775808≤x.natAbs) (h1y:-9223372036854775808≤y) (h2y:y < 9223372036854775808) (hx:zl x≤100000000000) (hy:zl y≤100000000000):Ax.Pure Tryz.prog G 216 [bgA x,smA y] (n8 (x+y)):=by
  have dx:=j5 (B:=BB) (by decide) x.natAbs
  have dy:=j5 (B:=BB) (by decide) y.natAbs
  have lx:(f7 BB x.natAbs).length≤100000000000:=hx
  have ly:(f7 BB y.natAbs).length≤100000000000:=hy
  have vx:=j8 (B:=BB) (by decide) x.natAbs
  have vy:=j8 (B:=BB) (by decide) y.natAbs
  have d1:=j5 (B:=BB) (by decide) (val BB (f7 BB x.natAbs)+val BB (f7 BB y.natAbs))
  have d2:=j5 (B:=BB) (by decide) (val BB (f7 BB x.natAbs) - val BB (f7 BB y.natAbs))
  have d3:=j5 (B:=BB) (by decide) (val BB (f7 BB y.natAbs) - val BB (f7 BB x.natAbs))
  have l1:(f7 BB (val BB (f7 BB x.natAbs)+val BB (f7 BB y.natAbs))).length≤4611686018427387904:=by
    rw [vx,vy]
    have:=b7q (x.natAbs:Nat) (y.natAbs:Nat)
    have e1:zl ((x.natAbs:Nat):Int)=zl x:=rfl
    have e2:zl ((y.natAbs:Nat):Int)=zl y:=rfl
    have e3:zl (((x.natAbs:Nat):Int)+((y.natAbs:Nat):Int))=(f7 BB (x.natAbs+y.natAbs)).length:=rfl
    omega
  have l2:(f7 BB (val BB (f7 BB x.natAbs) - val BB (f7 BB y.natAbs))).length≤4611686018427387904:=by
    rw [vx,vy]
    have:=a13 (x:=((x.natAbs - y.natAbs:Nat):Int)) (y:=x) (by omega)
    have e3:zl ((x.natAbs - y.natAbs:Nat):Int)=(f7 BB (x.natAbs - y.natAbs)).length:=rfl
    omega
  have l3:(f7 BB (val BB (f7 BB y.natAbs) - val BB (f7 BB x.natAbs))).length≤4611686018427387904:=by
    rw [vx,vy]
    have:=a13 (x:=((y.natAbs - x.natAbs:Nat):Int)) (y:=y) (by omega)
    have e3:zl ((y.natAbs - x.natAbs:Nat):Int)=(f7 BB (y.natAbs - x.natAbs)).length:=rfl
    omega
  refine r8 Tryz.func216 rfl Tryz.ntmps216 ?_
  intro w0 E0 hc
  repeat' (first|refine n7 hc Tryz.results216 ?_|(with_reducible first|exact trivial|refine j3 ?_ ?_|refine m8 (fun h=>?_)|refine c9 (a1d _ ?_ ?_) ?_ ?_|refine c9 (a01 _ ?_) ?_ ?_|refine c9 (a9y _ _ ?_ ?_ ?_ ?_) ?_ ?_|refine c9 (a3b _ _ ?_ ?_ ?_) ?_ ?_|refine c9 (a90 _ _ ?_ ?_ ?_ ?_ ?_) ?_ ?_|refine c9 (a4m _ _ ?_ ?_) ?_ ?_|fail)|((first|exact dx.lt|exact dy.lt|exact dx|exact dy|exact d1|exact d2|exact d3|exact l1|exact l2|exact l3|exact a52 h|exact a7p dx dy (a52 h)|exact Nat.le_of_lt (a54 h)|exact a7p dy dx (Nat.le_of_lt (a54 h))|omega);done))
  · refine a2i (by rw [vx,vy]) ?_
    by_cases h0:x < 0 <;> by_cases h3:y < 0 <;> simp [h0,h3] at h ⊢ <;> omega
  · have hle:=a52 h
    rename_i g
    refine a2i (by rw [vx,vy]) ?_
    rw [vx,vy] at hle
    by_cases h0:x < 0 <;> by_cases h3:y < 0 <;> simp [h0,h3] at g ⊢ <;> omega
  · have hle:=a54 h
    rename_i g
    refine a2i (by rw [vx,vy]) ?_
    rw [vx,vy] at hle
    by_cases h0:x < 0 <;> by_cases h3:y < 0 <;> simp [h0,h3] at g ⊢ <;> omega
theorem d4n (x y:Int) (hbx:9223372036854775808≤x.natAbs) (hby:9223372036854775808≤y.natAbs) (hx:zl x≤100000000000) (hy:zl y≤100000000000):Ax.Pure Tryz.prog G 216 [bgA x,bgA y] (n8 (x+y)):=by
  have dx:=j5 (B:=BB) (by decide) x.natAbs
  have dy:=j5 (B:=BB) (by decide) y.natAbs
  have lx:(f7 BB x.natAbs).length≤100000000000:=hx
  have ly:(f7 BB y.natAbs).length≤100000000000:=hy
  have vx:=j8 (B:=BB) (by decide) x.natAbs
  have vy:=j8 (B:=BB) (by decide) y.natAbs
  have d1:=j5 (B:=BB) (by decide) (val BB (f7 BB x.natAbs)+val BB (f7 BB y.natAbs))
  have d2:=j5 (B:=BB) (by decide) (val BB (f7 BB x.natAbs) - val BB (f7 BB y.natAbs))
  have d3:=j5 (B:=BB) (by decide) (val BB (f7 BB y.natAbs) - val BB (f7 BB x.natAbs))
  have l1:(f7 BB (val BB (f7 BB x.natAbs)+val BB (f7 BB y.natAbs))).length≤4611686018427387904:=by
    rw [vx,vy]
    have:=b7q (x.natAbs:Nat) (y.natAbs:Nat)
    have e1:zl ((x.natAbs:Nat):Int)=zl x:=rfl
    have e2:zl ((y.natAbs:Nat):Int)=zl y:=rfl
    have e3:zl (((x.natAbs:Nat):Int)+((y.natAbs:Nat):Int))=(f7 BB (x.natAbs+y.natAbs)).length:=rfl
    omega
  have l2:(f7 BB (val BB (f7 BB x.natAbs) - val BB (f7 BB y.natAbs))).length≤4611686018427387904:=by
    rw [vx,vy]
    have:=a13 (x:=((x.natAbs - y.natAbs:Nat):Int)) (y:=x) (by omega)
    have e3:zl ((x.natAbs - y.natAbs:Nat):Int)=(f7 BB (x.natAbs - y.natAbs)).length:=rfl
    omega
  have l3:(f7 BB (val BB (f7 BB y.natAbs) - val BB (f7 BB x.natAbs))).length≤4611686018427387904:=by
    rw [vx,vy]
    have:=a13 (x:=((y.natAbs - x.natAbs:Nat):Int)) (y:=y) (by omega)
    have e3:zl ((y.natAbs - x.natAbs:Nat):Int)=(f7 BB (y.natAbs - x.natAbs)).length:=rfl
    omega
  refine r8 Tryz.func216 rfl Tryz.ntmps216 ?_
  intro w0 E0 hc
  repeat' (first|refine n7 hc Tryz.results216 ?_|(with_reducible first|exact trivial|refine j3 ?_ ?_|refine m8 (fun h=>?_)|refine c9 (a1d _ ?_ ?_) ?_ ?_|refine c9 (a01 _ ?_) ?_ ?_|refine c9 (a9y _ _ ?_ ?_ ?_ ?_) ?_ ?_|refine c9 (a3b _ _ ?_ ?_ ?_) ?_ ?_|refine c9 (a90 _ _ ?_ ?_ ?_ ?_ ?_) ?_ ?_|refine c9 (a4m _ _ ?_ ?_) ?_ ?_|fail)|((first|exact dx.lt|exact dy.lt|exact dx|exact dy|exact d1|exact d2|exact d3|exact l1|exact l2|exact l3|exact a52 h|exact a7p dx dy (a52 h)|exact Nat.le_of_lt (a54 h)|exact a7p dy dx (Nat.le_of_lt (a54 h))|omega);done))
  · refine a2i (by rw [vx,vy]) ?_
    by_cases h0:x < 0 <;> by_cases h3:y < 0 <;> simp [h0,h3] at h ⊢ <;> omega
  · have hle:=a52 h
    rename_i g
    refine a2i (by rw [vx,vy]) ?_
    rw [vx,vy] at hle
    by_cases h0:x < 0 <;> by_cases h3:y < 0 <;> simp [h0,h3] at g ⊢ <;> omega
  · have hle:=a54 h
    rename_i g
    refine a2i (by rw [vx,vy]) ?_
    rw [vx,vy] at hle
    by_cases h0:x < 0 <;> by_cases h3:y < 0 <;> simp [h0,h3] at g ⊢ <;> omega
theorem b9b (x y:Int) (hx:zl x≤100000000000) (hy:zl y≤100000000000):Ax.Pure Tryz.prog G 216 [n8 x,n8 y] (n8 (x+y)):=
  a00 [] [n8 y] (fun a b=>a00 [smA x] [] (fun c d=>d4q x y a b c d hx hy) (fun c=>d4p x y a b c hx hy))
    (fun a=>a00 [bgA x] [] (fun c d=>d4o x y a c d hx hy) (fun c=>d4n x y a c hx hy))
theorem b7v (x y:Int) (hx:zl x≤100000000000) (hy:zl y≤100000000000):Ax.Pure Tryz.prog G 245 [n8 x,n8 y] (n8 (x - y)):=by
  have hy':zl (-y)≤100000000000:=by rw [a4y];exact hy
  refine r8 Tryz.func245 rfl Tryz.ntmps245 ?_
  intro w0 E0 hc
  repeat' (first|refine n7 hc Tryz.results245 ?_|(with_reducible first|exact trivial|refine j3 ?_ ?_|refine m8 (fun h=>?_)|refine c9 (c1v _ ?_) ?_ ?_|refine c9 (b9b _ _ ?_ ?_) ?_ ?_|fail)|((first|exact hy'|omega);done))
  all_goals exact a0f (by omega)
end Go.Proofs
end
section
set_option maxHeartbeats 4000000
set_option maxRecDepth 100000
namespace Go.Proofs
open Go.Ax
theorem b9a (x y:Int) (h:0≤x∧x < 18446744073709551616∧0≤y∧y < 18446744073709551616):Ax.Pure Tryz.prog G0 249 [U x,U y] (.tup [U (x*y / 18446744073709551616),U (x*y%18446744073709551616)]):=by
  refine r8 Tryz.func249 rfl Tryz.ntmps249 ?_
  intro w0 E0 hc
  repeat' (first|refine zR0 hc Tryz.results249 ?_|(with_reducible first|exact trivial|refine j3 ?_ ?_|refine m8 (fun h=>?_)|fail)|(first|omega|(simp only [IntKind.wrap_i64,IntKind.wrap_u64,Bool.and_self,true_and,and_true];omega);done))
  have hb:IntKind.u64.bits=64:=rfl
  simp only [c5j]
  simp only [hb,shr32]
  refine j6 ?_
  have hW:∀a:Int,0≤a→a < 18446744073709551616→IntKind.u64.wrap a=a:=fun a h1 h2=>by rw [IntKind.wrap_u64];omega
  rw [mul64 hW (x:=x) (y:=y) ⟨h.1,h.2.1⟩ ⟨h.2.2.1,h.2.2.2⟩ rfl rfl rfl rfl,IntKind.wrap_u64]
theorem b4o (x y:Int) (h:0≤x∧x < 18446744073709551616∧0≤y∧y < 18446744073709551616):Ax.Pure Tryz.prog G 249 [U x,U y] (.tup [U (x*y / 18446744073709551616),U (x*y%18446744073709551616)]):=b1i (b9a x y h)
end Go.Proofs
end
