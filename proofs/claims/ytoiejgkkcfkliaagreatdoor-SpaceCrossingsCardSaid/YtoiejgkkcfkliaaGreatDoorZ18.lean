/- Lemmas on the program and its library: part Z18. -/
import Derived.Laws.Externs
import Derived.Test.YtoiejgkkcfkliaaGreatDoorZ14
set_option linter.unusedVariables false
set_option linter.unusedSimpArgs false
section
set_option maxHeartbeats 4000000
set_option maxRecDepth 100000
namespace Go.Proofs
open Go.Ax
theorem toI_get (l:List Nat) (i:Nat):(toI l).getD i 0=((l.getD i 0:Nat):Int):=by
  simp only [toI,List.getD_eq_getElem?_getD,List.getElem?_map]
  cases l[i]? <;> rfl
theorem toI_len (l:List Nat):(toI l).length=l.length:=by simp [toI]
theorem toI_take (l:List Nat) (n:Nat):(toI l).take n=toI (l.take n):=by simp [toI,List.map_take]
theorem w64 {x:Int} (h:-9223372036854775808≤x) (h':x≤9223372036854775807):IntKind.i64.wrap x=x:=by
  rw [IntKind.wrap_i64];omega
theorem sub_eq {x y:AV} (h:x=y):Ax.Sub x y:=h ▸ Sub.refl x
theorem trimL_take {l:List Nat} {j:Nat} (hj:j < l.length) (h0:l.getD j 0=0):trimL (l.take (j+1))=trimL (l.take j):=by
  have e:l.take (j+1)=l.take j++ [0]:=by
    rw [List.take_succ_eq_append_getElem hj]
    simp [List.getD_eq_getElem?_getD,hj] at h0
    rw [h0]
  rw [e]
  generalize l.take j=xs
  induction xs with
  | nil=>rfl
  | cons x xs ih=>rw [List.cons_append,trimL_cons,trimL_cons,ih]
theorem trimL_full {l:List Nat} {j:Nat} (hj:j < l.length) (h0:l.getD j 0≠0):trimL (l.take (j+1))=l.take (j+1):=by
  rw [List.take_succ_eq_append_getElem hj]
  have:l[j]≠0:=by simpa [List.getD_eq_getElem?_getD,hj] using h0
  generalize l.take j=xs
  induction xs with
  | nil=>simp [trimL_cons,trimL,this]
  | cons x xs ih=>rw [List.cons_append,trimL_cons,ih];simp
theorem c_trim (l:List Nat) (hl:l.length≤4611686018427387904):Ax.Pure Tryz.prog G 268 [L (toI l)] (L (toI (trimL l))):=by
  refine zen Tryz.func268 rfl Tryz.ntmps268 ?_
  intro w0 E0 hc
  repeat' (first|refine zR0 hc Tryz.results268 ?_|(with_reducible first|exact trivial|refine zan ?_ ?_|refine zim (fun h=>?_)|fail))
  refine Wp_loopS (ι:={ k:Nat // k≤l.length∧trimL (l.take k)=trimL l }) (fun k=>stOf [(0,L (toI l)),(3,N k.1)] [] 0) (fun k=>k.1) ⟨l.length,Nat.le_refl _,by rw [List.take_length]⟩ ?_ ?_
  · refine zW0 ?_ <;> repeat' (with_reducible first|exact trivial|refine zan ?_ ?_|refine zal (fun i hi=>?_))
    rw [toI_len]
  · rintro ⟨k,hk,ht⟩
    have w1:0 < (k:Int)→IntKind.i64.wrap (k - 1)=((k - 1:Nat):Int):=fun h=>by rw [w64] <;> omega
    have ll:=toI_len l
    repeat' (first|refine zR0 hc Tryz.results268 ?_|(with_reducible first|exact trivial|refine zan ?_ ?_|refine zim (fun h=>?_)|fail)|(omega;done))
    · rename_i h0
      rw [w1 h0,Int.toNat_natCast,toI_get] at h
      refine ⟨⟨k - 1,by omega,?_⟩,?_,?_⟩
      · rw [←ht]
        have:=trimL_take (l:=l) (j:=k - 1) (by omega) (by omega)
        rw [show k - 1+1=k by omega] at this
        exact this.symm
      · refine zW0 ?_ <;> repeat' (with_reducible first|exact trivial|refine zan ?_ ?_|refine zal (fun i hi=>?_))
      · show k - 1 < k
        omega
    · rename_i h0
      rw [w1 h0,Int.toNat_natCast,toI_get] at h
      have:=trimL_full (l:=l) (j:=k - 1) (by omega) (by omega)
      rw [show k - 1+1=k by omega] at this
      exact sub_eq (by rw [←ht,this,List.drop_zero,Nat.sub_zero,toI_take])
    · obtain rfl:k=0:=by omega
      rw [List.take_zero] at ht
      exact sub_eq (by rw [←ht];rfl)
end Go.Proofs
end
section
set_option maxHeartbeats 4000000
set_option maxRecDepth 100000
namespace Go.Proofs
open Go.Ax
abbrev Bo (b:Bool):AV:=.one (.v (.bool b))
theorem c_size (n:Int) (h1:-9223372036854775808≤n) (h2:n < 9223372036854775808):Ax.Pure Tryz.prog G 250 [N n] (U (n.natAbs:Nat)):=by
  refine zen Tryz.func250 rfl Tryz.ntmps250 ?_
  intro w0 E0 hc
  repeat' (first|refine zR1 hc Tryz.results250 ?_|(with_reducible first|exact trivial|refine zan ?_ ?_|refine zim (fun h=>?_)|fail)|(omega;done))
  · refine sub_eq ?_
    rw [IntKind.wrap_i64,IntKind.wrap_u64];congr 3;omega
  · refine sub_eq ?_
    rw [IntKind.wrap_u64];congr 3;omega
theorem c_parts_s (z:Int) (h1:-9223372036854775808≤z) (h2:z < 9223372036854775808):Ax.Pure Tryz.prog G 218 [smA z] (.tup [Bo (decide (z < 0)),L (toI (digs BB z.natAbs))]):=by
  refine zen Tryz.func218 rfl Tryz.ntmps218 ?_
  intro w0 E0 hc
  repeat' (first|refine zR1 hc Tryz.results218 ?_|(with_reducible first|exact trivial|refine zan ?_ ?_|refine zim (fun h=>?_)|refine zoc (c_size _ ?_ ?_) ?_ ?_|fail)|((first|omega|decide);done))
  · subst h
    exact sub_tup2 (Sub.refl _) sub_nil
  · have e:digs BB z.natAbs= [z.natAbs]:=digs_of (by decide) ⟨by simp only [List.mem_singleton,BB];omega,by simp;omega⟩ (by simp [val])
    exact sub_tup2 (Sub.refl _) (sub_row_ints (by rw [e]; rfl) (fun i hi => by obtain rfl : i = 0 := by omega
                                                                               rw [e];rfl))
theorem c_parts_b (z:Int) (h:9223372036854775808≤z.natAbs):Ax.Pure Tryz.prog G 218 [bgA z] (.tup [Bo (decide (z < 0)),L (toI (digs BB z.natAbs))]):=by
  refine zen Tryz.func218 rfl Tryz.ntmps218 ?_
  intro w0 E0 hc
  repeat' (first|refine zR1 hc Tryz.results218 ?_|(with_reducible first|exact trivial|refine zan ?_ ?_|refine zim (fun h=>?_)|fail)|(omega;done))
  refine sub_tup2 (sub_eq ?_) sub_nn
  by_cases hz:z < 0 <;> simp [hz]
theorem c_made (neg:Bool) (ds:List Nat) (hd:Dig BB ds) (hl:ds.length≤4611686018427387904):Ax.Pure Tryz.prog G 219 [Bo neg,L (toI ds)] (intA (if neg then -((val BB ds:Nat):Int) else ((val BB ds:Nat):Int))):=by
  have ll:=toI_len ds
  have g0:=toI_get ds 0
  have hds:digs BB (val BB ds)=ds:=digs_eq (by decide) hd
  refine zen Tryz.func219 rfl Tryz.ntmps219 ?_
  intro w0 E0 hc
  repeat' (first|refine zR1 hc Tryz.results219 ?_|(with_reducible first|exact trivial|refine zan ?_ ?_|refine zim (fun h=>?_)|fail)|(omega;done))
  · obtain rfl:ds= []:=List.length_eq_zero_iff.1 (by omega)
    exact sub_sm' (by cases neg <;> rfl) (by cases neg <;> decide) (by cases neg <;> decide)
  · have hv:val BB ds=ds.getD 0 0:=val_one (by omega)
    subst h
    simp only [if_true,hv,g0]
    exact sub_sm' (by rw [IntKind.wrap_i64,IntKind.wrap_i64];omega) (by omega) (by omega)
  · have hv:val BB ds=ds.getD 0 0:=val_one (by omega)
    rename_i hneg _
    subst hneg
    simp only [Bool.false_eq_true,if_false,hv,g0]
    exact sub_sm' (by rw [IntKind.wrap_i64];omega) (by omega) (by omega)
  · have hv:val BB ds=ds.getD 0 0:=val_one (by omega)
    subst h
    simp only [if_true]
    exact sub_bg' (by rw [hv];omega) (by rw [if_pos (by rw [hv];omega)]) (by rw [Int.natAbs_neg,Int.natAbs_natCast,hds])
  · have hv:val BB ds=ds.getD 0 0:=val_one (by omega)
    subst h
    simp only [Bool.false_eq_true,if_false]
    exact sub_bg' (by rw [hv];omega) (by rw [if_neg (by rw [hv];omega)]) (by rw [Int.natAbs_natCast,hds])
  · have hv:=val_big hd (by omega)
    subst h
    simp only [if_true]
    have hv':18446744073709551616≤val BB ds:=hv
    exact sub_bg' (by omega) (by rw [if_pos (by omega)]) (by rw [Int.natAbs_neg,Int.natAbs_natCast,hds])
  · have hv:=val_big hd (by omega)
    subst h
    simp only [Bool.false_eq_true,if_false]
    have hv':18446744073709551616≤val BB ds:=hv
    exact sub_bg' (by omega) (by rw [if_neg (by omega)]) (by rw [Int.natAbs_natCast,hds])
theorem made_of {neg:Bool} {n:Nat} {z:Int} (h:(if neg then -(n:Int) else (n:Int))=z):Ax.Sub (intA (if neg then -((val BB (digs BB n):Nat):Int) else ((val BB (digs BB n):Nat):Int))) (intA z):=by
  rw [digs_val (by decide),h];exact Sub.refl _
theorem c_Neg_s (z:Int) (h1:-9223372036854775808≤z) (h2:z < 9223372036854775808):Ax.Pure Tryz.prog G 129 [smA z] (intA (-z)):=by
  have hd:=digs_dig (B:=BB) (by decide) z.natAbs
  have hl:(digs BB z.natAbs).length≤1:=zl_small (by simp only [BB];omega)
  refine zen Tryz.func129 rfl Tryz.ntmps129 ?_
  intro w0 E0 hc
  repeat' (first|refine zR1 hc Tryz.results129 ?_|(with_reducible first|exact trivial|refine zan ?_ ?_|refine zim (fun h=>?_)|refine zoc (c_parts_s _ ?_ ?_) ?_ ?_|refine zoc (c_made _ _ ?_ ?_) ?_ ?_|fail)|((first|exact hd|omega);done))
  · exact sub_sm' (by rw [IntKind.wrap_i64];omega) (by omega) (by omega)
  · refine made_of ?_
    by_cases h0:z < 0 <;> simp [h0] <;> omega
theorem c_Neg_b (z:Int) (h:9223372036854775808≤z.natAbs) (hz:zl z≤1000000000000):Ax.Pure Tryz.prog G 129 [bgA z] (intA (-z)):=by
  have hd:=digs_dig (B:=BB) (by decide) z.natAbs
  have hl:(digs BB z.natAbs).length≤1000000000000:=hz
  refine zen Tryz.func129 rfl Tryz.ntmps129 ?_
  intro w0 E0 hc
  repeat' (first|refine zR1 hc Tryz.results129 ?_|(with_reducible first|exact trivial|refine zan ?_ ?_|refine zim (fun h=>?_)|refine zoc (c_parts_b _ ?_) ?_ ?_|refine zoc (c_made _ _ ?_ ?_) ?_ ?_|fail)|((first|exact hd|omega);done))
  refine made_of ?_
  by_cases h0:z < 0 <;> simp [h0] <;> omega
theorem c_Neg (z:Int) (hz:zl z≤1000000000000):Ax.Pure Tryz.prog G 129 [intA z] (intA (-z)):=
  pure_int [] [] (c_Neg_s z) (fun h=>c_Neg_b z h hz)
theorem c_Sign_s (z:Int):Ax.Pure Tryz.prog G 128 [smA z] (N z.sign):=by
  refine zen Tryz.func128 rfl Tryz.ntmps128 ?_
  intro w0 E0 hc
  repeat' (first|refine zR1 hc Tryz.results128 ?_|(with_reducible first|exact trivial|refine zan ?_ ?_|refine zim (fun h=>?_)|fail)|(omega;done))
  all_goals exact sub_eq (by rw [sign_min])
theorem c_Sign_b (z:Int) (h:9223372036854775808≤z.natAbs):Ax.Pure Tryz.prog G 128 [bgA z] (N z.sign):=by
  refine zen Tryz.func128 rfl Tryz.ntmps128 ?_
  intro w0 E0 hc
  repeat' (first|refine zR1 hc Tryz.results128 ?_|(with_reducible first|exact trivial|refine zan ?_ ?_|refine zim (fun h=>?_)|fail)|(omega;done))
  all_goals exact sub_eq (by rw [sign_min,sign_big h,sign_sign])
theorem c_Sign (z:Int):Ax.Pure Tryz.prog G 128 [intA z] (N z.sign):=
  pure_int [] [] (fun _ _=>c_Sign_s z) (c_Sign_b z)
theorem c_Abs_s (z:Int) (h1:-9223372036854775808≤z) (h2:z < 9223372036854775808):Ax.Pure Tryz.prog G 152 [smA z] (intA z.natAbs):=by
  refine zen Tryz.func152 rfl Tryz.ntmps152 ?_
  intro w0 E0 hc
  repeat' (first|refine zR1 hc Tryz.results152 ?_|(with_reducible first|exact trivial|refine zan ?_ ?_|refine zim (fun h=>?_)|refine zoc (c_Neg_s _ ?_ ?_) ?_ ?_|fail)|(omega;done))
  · exact sub_intA (by omega)
  · exact sub_sm' (by omega) (by omega) (by omega)
theorem c_Abs_b (z:Int) (h:9223372036854775808≤z.natAbs) (hz:zl z≤1000000000000):Ax.Pure Tryz.prog G 152 [bgA z] (intA z.natAbs):=by
  refine zen Tryz.func152 rfl Tryz.ntmps152 ?_
  intro w0 E0 hc
  repeat' (first|refine zR1 hc Tryz.results152 ?_|(with_reducible first|exact trivial|refine zan ?_ ?_|refine zim (fun h=>?_)|refine zoc (c_Neg_b _ ?_ ?_) ?_ ?_|fail)|(omega;done))
  · exact sub_intA (by split at h <;> omega)
  · have h0:¬z < 0:=by split at h <;> omega
    have e:((z.natAbs:Nat):Int)=z:=by omega
    rw [e]
    rename_i hb
    exact sub_bg hb
theorem c_Abs (z:Int) (hz:zl z≤1000000000000):Ax.Pure Tryz.prog G 152 [intA z] (intA z.natAbs):=
  pure_int [] [] (c_Abs_s z) (fun h=>c_Abs_b z h hz)
theorem c_Of (z:Int) (h1:-9223372036854775808≤z) (h2:z < 9223372036854775808):Ax.Pure Tryz.prog G 126 [N z] (intA z):=by
  refine zen Tryz.func126 rfl Tryz.ntmps126 ?_
  intro w0 E0 hc
  repeat' (first|refine zR1 hc Tryz.results126 ?_|(with_reducible first|exact trivial|refine zan ?_ ?_|refine zim (fun h=>?_)|fail)|(omega;done))
  all_goals exact sub_sm h1 h2
end Go.Proofs
end
section
set_option maxHeartbeats 4000000
set_option maxRecDepth 100000
namespace Go.Proofs
open Go.Ax
theorem c_Add64 (x y c:Int) (h:0≤x∧0≤y∧0≤c∧c≤1):PureX Tryz.prog 277 [U x,U y,U c] (.tup [U ((x+y+c)%18446744073709551616),U ((x+y+c) / 18446744073709551616)]):=by
  refine ⟨fun E w vs hvs=>?_⟩
  obtain ⟨_,_,rfl,⟨_,h1,_⟩,_,_,rfl,⟨_,h2,_⟩,_,_,rfl,⟨_,h3,_⟩,rfl⟩:=hvs
  simp only [List.cons.injEq,and_true] at h1 h2 h3
  subst h1 h2 h3
  refine ⟨_,?_,_,rfl,_,_,rfl,⟨rfl,rfl,rfl⟩,_,_,rfl,⟨rfl,rfl,rfl⟩,rfl⟩
  rw [run_callFunc_extern Tryz.func277 (by kernel_rfl) (by kernel_rfl) (by kernel_rfl) (e:=add64Entry) (by kernel_rfl),run_add64 x y c h.1 h.2.1 h.2.2.1 h.2.2.2]
  rfl
def subEntry:Array Value→Sem Value:=fun args=>do
  let (x,y,b) ←Extern.MathBitsCarry.three "Sub64" args
  pure (Extern.MathBitsCarry.pair ((x+Extern.MathBitsCarry.m64 - y - b)%Extern.MathBitsCarry.m64) (if x < y+b then 1 else 0))
theorem run_sub {P:Program} (x y b:Nat) (hb:b≤1) (w:World) :
    (subEntry #[.int .u64 x,.int .u64 y,.int .u64 b]).run P w =
      .ok (.tuple #[.int .u64 (((x+18446744073709551616 - y - b)%18446744073709551616:Nat):Int),.int .u64 ((if x < y+b then 1 else 0:Nat):Int)]) w:=by
  have:b=0∨b=1:=by omega
  rcases this with rfl|rfl <;> rfl
theorem c_Sub64 (x y c:Int) (h:0≤x∧0≤y∧0≤c∧c≤1):PureX Tryz.prog 278 [U x,U y,U c] (.tup [U (((x.toNat+18446744073709551616 - y.toNat - c.toNat)%18446744073709551616:Nat):Int),U ((if x.toNat < y.toNat+c.toNat then 1 else 0:Nat):Int)]):=by
  obtain ⟨h1,h2,h3,h4⟩:=h
  obtain ⟨x,rfl⟩:=Int.eq_ofNat_of_zero_le h1
  obtain ⟨y,rfl⟩:=Int.eq_ofNat_of_zero_le h2
  obtain ⟨c,rfl⟩:=Int.eq_ofNat_of_zero_le h3
  refine ⟨fun E w vs hvs=>?_⟩
  obtain ⟨_,_,rfl,⟨_,h1,_⟩,_,_,rfl,⟨_,h2,_⟩,_,_,rfl,⟨_,h3,_⟩,rfl⟩:=hvs
  simp only [List.cons.injEq,and_true] at h1 h2 h3
  subst h1 h2 h3
  refine ⟨_,?_,_,rfl,_,_,rfl,⟨rfl,rfl,rfl⟩,_,_,rfl,⟨rfl,rfl,rfl⟩,rfl⟩
  rw [run_callFunc_extern Tryz.func278 (by kernel_rfl) (by kernel_rfl) (by kernel_rfl) (e:=subEntry) (by kernel_rfl),run_sub x y c (by omega)]
  rfl
theorem c_compareWords (x y:List Nat) (hx:Dig BB x) (hy:Dig BB y) (lx:x.length≤4611686018427387904):Ax.Pure Tryz.prog G 253 [L (toI x),L (toI y)] (N (cmpN (val BB x) (val BB y))):=by
  refine zen Tryz.func253 rfl Tryz.ntmps253 ?_
  intro w0 E0 hc
  repeat' (first|refine zR0 hc Tryz.results253 ?_|(with_reducible first|exact trivial|refine zan ?_ ?_|refine zim (fun h=>?_)|fail))
  · rw [toI_len,toI_len] at h
    have:=cmp_len (by decide) hx hy (by omega)
    exact sub_eq (by rw [cmpN,if_pos this])
  · rename_i h0
    rw [toI_len,toI_len] at h h0
    have:=cmp_len (by decide) hy hx (by omega)
    exact sub_eq (by rw [cmpN,if_neg (by omega),if_pos this])
  rw [toI_len,toI_len] at h
  have hl:x.length=y.length:=by omega
  refine Wp_loopS (ι:={ k:Nat // k≤x.length∧x.drop k=y.drop k }) (fun k=>stOf [(0,L (toI x)),(1,L (toI y)),(5,N ((k.1:Int) - 1))] [] 0) (fun k=>k.1) ⟨x.length,Nat.le_refl _,by rw [List.drop_length,hl,List.drop_length]⟩ ?_ ?_
  · refine zW0 ?_ <;> repeat' (with_reducible first|exact trivial|refine zan ?_ ?_|refine zal (fun i hi=>?_))
    rw [toI_len,w64 (by omega) (by omega)]
  · clear h
    rintro ⟨k,hk,he⟩
    have gx:0 < k→(toI x).getD ((k:Int) - 1).toNat 0=((x.getD (k - 1) 0:Nat):Int):=fun h=>by rw [toI_get];congr 2;omega
    have gy:0 < k→(toI y).getD ((k:Int) - 1).toNat 0=((y.getD (k - 1) 0:Nat):Int):=fun h=>by rw [toI_get];congr 2;omega
    have lx':=toI_len x
    have ly':=toI_len y
    repeat' (first|refine zR0 hc Tryz.results253 ?_|(with_reducible first|exact trivial|refine zan ?_ ?_|refine zim (fun h=>?_)|fail)|(omega;done))
    · rw [gx (by omega),gy (by omega)] at h
      have:=cmp_at hx.lt hl (k:=k - 1) (by omega) (by rw [show k - 1+1=k by omega];exact he) (by omega)
      exact sub_eq (by rw [cmpN,if_pos this])
    · rename_i h1
      rw [gx (by omega),gy (by omega)] at h h1
      have:=cmp_at hy.lt hl.symm (k:=k - 1) (by omega) (by rw [show k - 1+1=k by omega];exact he.symm) (by omega)
      exact sub_eq (by rw [cmpN,if_neg (by omega),if_pos this])
    · rw [gx (by omega),gy (by omega)] at h
      refine ⟨⟨k - 1,by omega,drop_eq_step (by omega) hl (by rw [show k - 1+1=k by omega];exact he) (by omega)⟩,?_,?_⟩
      · refine zW0 ?_ <;> repeat' (with_reducible first|exact trivial|refine zan ?_ ?_|refine zal (fun i hi=>?_))
      · show k - 1 < k
        omega
    · obtain rfl:k=0:=by omega
      have:x=y:=he
      exact sub_eq (by rw [this,cmpN,if_neg (by omega),if_neg (by omega)])
end Go.Proofs
end
section
set_option maxHeartbeats 4000000
set_option maxRecDepth 100000
namespace Go.Proofs
open Go.Ax
theorem c_addWords (x y:List Nat) (hx:∀d∈x,d < BB) (hy:∀d∈y,d < BB) (lx:x.length≤1000000000000) (ly:y.length≤1000000000000):Ax.Pure Tryz.prog G 252 [L (toI x),L (toI y)] (L (toI (digs BB (val BB x+val BB y)))):=by
  have lx':=toI_len x
  have ly':=toI_len y
  refine zen Tryz.func252 rfl Tryz.ntmps252 ?_
  intro w0 E0 hc
  repeat' (first|(with_reducible first|refine Wp_seq (x:=.region _ _ _) ?_|refine Wp_seq (x:=.seq _ _) ?_|refine Wp_seq (x:=.block _ _) ?_|refine Wp_seq (x:=.loop _) ?_|refine Wp_seq (x:=.skip) ?_|refine zr0 hc ?_|refine zm0 hc ?_|refine Wp_block ?_|refine zgo ?_|refine zbn ?_|refine zge Tryz.results252 ?_|refine Sub.refl _|refine allP_nil|refine zoa0 (out':=?_) ?_|refine zca0 (y:=?_) ?_|refine zea0 (eo':=?_) ?_)|(with_reducible refine allP_cons ?_ ?_;focus (first|decide|omega))|(with_reducible first|refine zg2 ?_ ?_|refine zbo ?_|refine zg3 ?_ (fun h=>?_) (fun h=>?_)|refine zg4 (fun h=>?_) (fun h=>?_)|fail)|(omega;done))
  refine Wp_join (α:=List Nat×List Nat) (fun p=>stOf [(0,L (toI p.1)),(1,L (toI p.2))] [] 0) (fun p=>p.2.length≤p.1.length∧p.1.length≤1000000000000∧(∀d∈p.1,d < BB)∧(∀d∈p.2,d < BB)∧val BB p.1+val BB p.2=val BB x+val BB y) ?_ ?_
  · repeat' (first|refine zR0 hc Tryz.results252 ?_|(with_reducible first|exact trivial|refine zan ?_ ?_|refine zim (fun h=>?_)|fail)|(omega;done))
    · refine ⟨(y,x),⟨?_,ly,hy,hx,Nat.add_comm _ _⟩,?_⟩
      · dsimp only;omega
      · refine zW0 ?_ <;> repeat' (with_reducible first|exact trivial|refine zan ?_ ?_|refine zal (fun i hi=>?_))
    · refine ⟨(x,y),⟨?_,lx,hx,hy,rfl⟩,?_⟩
      · dsimp only;omega
      · refine zW0 ?_ <;> repeat' (with_reducible first|exact trivial|refine zan ?_ ?_|refine zal (fun i hi=>?_))
  rintro ⟨x',y'⟩ ⟨hl,lx,hx,hy,he⟩
  dsimp only at hl lx hx hy he
  rw [←he]
  clear he lx' ly'
  have lx':=toI_len x'
  have ly':=toI_len y'
  have w1:(IntKind.i64.wrap (↑(toI x').length+1)).toNat=x'.length+1:=by rw [IntKind.wrap_i64];omega
  repeat' (first|refine zR0 hc Tryz.results252 ?_|(with_reducible first|exact trivial|refine zan ?_ ?_|refine zim (fun h=>?_)|fail)|(first|omega|(simp only [IntKind.wrap_i64,IntKind.wrap_u64,Bool.and_self,true_and,and_true];omega);done))
  refine Wp_loopI (α:=List Nat×Nat) (fun p=>stOf [(0,L (toI x')),(1,L (toI y')),(5,.one (.own 0 1 0 (x'.length+1) (x'.length+1))),(6,U p.2),(21,N x'.length),(22,N p.1.length)] [(0,⟨1,x'.length+1,fun i=> [.v (.int .u64 (p.1.getD i 0:Nat))],false⟩)] 1)
    (fun p=>AddTo BB x' y' p.1 p.2) (fun p=>x'.length - p.1.length) ([],0) (AddTo.nil _ _) ?_ ?_
  · refine zW0 ?_ <;> repeat' (with_reducible first|exact trivial|refine zan ?_ ?_|refine zal (fun i hi=>?_))
    all_goals rfl
  · rintro ⟨o,c⟩ hA
    dsimp only at hA
    have gx:=toI_get x' o.length
    have gy:=toI_get y' o.length
    have hc1:=hA.hc
    have ho:=hA.len
    repeat' (first|(with_reducible first|refine Wp_seq ?_|refine zwk ?_|refine Wp_block ?_|refine zgo ?_|refine zbn ?_|refine zge Tryz.results252 ?_|refine Sub.refl _|refine allP_nil|refine zoa0 (out':=?_) ?_|refine zca0 (y:=?_) ?_|refine zea0 (eo':=?_) ?_)|(with_reducible refine zrs [14] hc ?_ ?_;focus (with_unfolding_all rfl))|(with_reducible refine zrm [14] hc mixed ?_ ?_;focus (with_unfolding_all rfl))|(with_reducible refine allP_cons ?_ ?_;focus (first|decide|omega))|(with_reducible first|refine zg2 ?_ ?_|refine zocx (c_Add64 _ _ _ ?_) ?_ ?_|refine zbo ?_|refine zg3 ?_ (fun h=>?_) (fun h=>?_)|refine zg4 (fun h=>?_) (fun h=>?_)|fail)|(first|omega|(simp only [IntKind.wrap_i64,IntKind.wrap_u64,Bool.and_self,true_and,and_true];omega);done))
    · refine ⟨(_,_),AddTo.step (by decide) hA hx hy (by omega),?_,?_⟩
      · simp only [List.length_append,List.length_singleton];omega
      · refine zW0 ?_ <;> repeat' (with_reducible first|exact trivial|refine zan ?_ ?_|refine zal (fun i hi=>?_))
        · rw [gx,gy];simp only [BB];omega
        · exact box_snoc _ (by rw [Nat.zero_add]) (by rw [gx,gy];simp only [BB];omega)
    · have e0:y'.getD o.length 0=0:=by
        rw [List.getD_eq_getElem?_getD,List.getElem?_eq_none (by omega)];rfl
      refine ⟨(_,_),AddTo.step (by decide) hA hx hy (by omega),?_,?_⟩
      · simp only [List.length_append,List.length_singleton];omega
      · refine zW0 ?_ <;> repeat' (with_reducible first|exact trivial|refine zan ?_ ?_|refine zal (fun i hi=>?_))
        · rw [gx,e0];simp only [BB];omega
        · exact box_snoc _ (by rw [Nat.zero_add]) (by rw [gx,e0];simp only [BB];omega)
    · have hlo:o.length=x'.length:=by omega
      have hcB:c < BB:=by simp only [BB];omega
      refine Wp_frz hc 0 5 (x'.length+1) .u64 (toI (o++ [c])) [] [] 1 [] [] ?_ (Nat.le_refl _) (by simp [hlo]) rfl rfl (fun _ h=>by cases h) ?_
      · refine zW0 ?_ <;> repeat' (with_reducible first|exact trivial|refine zan ?_ ?_|refine zal (fun i hi=>?_))
        rw [toI_get]
        exact box_snoc _ (by rw [Nat.zero_add,lx',hlo]) rfl
      · repeat' (first|refine zR0 hc Tryz.results252 ?_|(with_reducible first|exact trivial|refine zan ?_ ?_|refine zim (fun h=>?_)|refine zoc (c_trim _ ?_) ?_ ?_|fail)|(first|omega|(simp only [IntKind.wrap_i64,IntKind.wrap_u64,Bool.and_self,true_and,and_true];omega);done))
        · rw [List.length_append,List.length_singleton];omega
        · exact sub_eq (by rw [trimL_digs (by decide) (snoc_lt hA.lt hcB),hA.done hlo hl])
end Go.Proofs
end
section
set_option maxHeartbeats 4000000
set_option maxRecDepth 100000
namespace Go.Proofs
open Go.Ax
theorem c_subWords (x y:List Nat) (hx:∀d∈x,d < BB) (hy:∀d∈y,d < BB) (lx:x.length≤1000000000000) (hl:y.length≤x.length) (hle:val BB y≤val BB x):Ax.Pure Tryz.prog G 254 [L (toI x),L (toI y)] (L (toI (digs BB (val BB x - val BB y)))):=by
  have lx':=toI_len x
  have ly':=toI_len y
  refine zen Tryz.func254 rfl Tryz.ntmps254 ?_
  intro w0 E0 hc
  repeat' (first|refine zR0 hc Tryz.results254 ?_|(with_reducible first|exact trivial|refine zan ?_ ?_|refine zim (fun h=>?_)|fail)|(first|omega|(simp only [IntKind.wrap_i64,IntKind.wrap_u64,Bool.and_self,true_and,and_true];omega);done))
  refine Wp_loopI (α:=List Nat×Nat) (fun p=>stOf [(0,L (toI x)),(1,L (toI y)),(5,.one (.own 0 1 0 x.length x.length)),(6,U p.2),(13,N x.length),(14,N p.1.length)] [(0,⟨1,x.length,fun i=> [.v (.int .u64 (p.1.getD i 0:Nat))],false⟩)] 1)
    (fun p=>SubTo BB x y p.1 p.2) (fun p=>x.length - p.1.length) ([],0) (SubTo.nil _ _) ?_ ?_
  · refine zW0 ?_ <;> repeat' (with_reducible first|exact trivial|refine zan ?_ ?_|refine zal (fun i hi=>?_))
    all_goals rfl
  · rintro ⟨o,c⟩ hA
    dsimp only at hA
    have gx:=toI_get x o.length
    have gy:=toI_get y o.length
    have hc1:=hA.hc
    have ho:=hA.len
    repeat' (first|(with_reducible first|refine Wp_seq ?_|refine zwk ?_|refine Wp_block ?_|refine zgo ?_|refine zbn ?_|refine zge Tryz.results254 ?_|refine Sub.refl _|refine allP_nil|refine zoa0 (out':=?_) ?_|refine zca0 (y:=?_) ?_|refine zea0 (eo':=?_) ?_)|(with_reducible refine zrs [11] hc ?_ ?_;focus (with_unfolding_all rfl))|(with_reducible refine zrm [11] hc mixed ?_ ?_;focus (with_unfolding_all rfl))|(with_reducible refine allP_cons ?_ ?_;focus (first|decide|omega))|(with_reducible first|refine zg2 ?_ ?_|refine zocx (c_Sub64 _ _ _ ?_) ?_ ?_|refine zbo ?_|refine zg3 ?_ (fun h=>?_) (fun h=>?_)|refine zg4 (fun h=>?_) (fun h=>?_)|fail)|(first|omega|(simp only [IntKind.wrap_i64,IntKind.wrap_u64,Bool.and_self,true_and,and_true];omega);done))
    · refine ⟨(_,_),SubTo.step (by decide) hA hx hy (by omega),?_,?_⟩
      · simp only [List.length_append,List.length_singleton];omega
      · refine zW0 ?_ <;> repeat' (with_reducible first|exact trivial|refine zan ?_ ?_|refine zal (fun i hi=>?_))
        · simp only [Int.toNat_natCast,gx,gy];rfl
        · exact box_snoc _ (by rw [Nat.zero_add]) (by simp only [Int.toNat_natCast,gx,gy])
    · have e0:y.getD o.length 0=0:=by
        rw [List.getD_eq_getElem?_getD,List.getElem?_eq_none (by omega)];rfl
      refine ⟨(_,_),SubTo.step (by decide) hA hx hy (by omega),?_,?_⟩
      · simp only [List.length_append,List.length_singleton];omega
      · refine zW0 ?_ <;> repeat' (with_reducible first|exact trivial|refine zan ?_ ?_|refine zal (fun i hi=>?_))
        · simp only [Int.toNat_natCast,gx,Int.toNat_zero];rw [e0];rfl
        · exact box_snoc _ (by rw [Nat.zero_add]) (by simp only [Int.toNat_natCast,gx,e0,Int.toNat_zero])
    · have hlo:o.length=x.length:=by omega
      refine Wp_frz hc 0 5 x.length .u64 (toI o) [] [] 1 [] [] ?_ (Nat.le_refl _) (by simp [hlo]) rfl rfl (fun _ h=>by cases h) ?_
      · refine zW0 ?_ <;> repeat' (with_reducible first|exact trivial|refine zan ?_ ?_|refine zal (fun i hi=>?_))
        rw [toI_get]
      · repeat' (first|refine zR0 hc Tryz.results254 ?_|(with_reducible first|exact trivial|refine zan ?_ ?_|refine zim (fun h=>?_)|refine zoc (c_trim _ ?_) ?_ ?_|fail)|(first|omega|(simp only [IntKind.wrap_i64,IntKind.wrap_u64,Bool.and_self,true_and,and_true];omega);done))
        · exact sub_eq (by rw [trimL_digs (by decide) hA.lt,hA.done hlo hl hle])
end Go.Proofs
end
section
set_option maxHeartbeats 4000000
set_option maxRecDepth 100000
namespace Go.Proofs
open Go.Ax
theorem made_of' {neg:Bool} {m:Nat} {n:Nat} {z:Int} (hm:m=n) (h:(if neg then -(n:Int) else (n:Int))=z):Ax.Sub (intA (if neg then -((val BB (digs BB m):Nat):Int) else ((val BB (digs BB m):Nat):Int))) (intA z):=by
  subst hm;exact made_of h
theorem c_Add_ss (x y:Int) (h1x:-9223372036854775808≤x) (h2x:x < 9223372036854775808) (h1y:-9223372036854775808≤y) (h2y:y < 9223372036854775808) (hx:zl x≤100000000000) (hy:zl y≤100000000000):Ax.Pure Tryz.prog G 216 [smA x,smA y] (intA (x+y)):=by
  have dx:=digs_dig (B:=BB) (by decide) x.natAbs
  have dy:=digs_dig (B:=BB) (by decide) y.natAbs
  have lx:(digs BB x.natAbs).length≤100000000000:=hx
  have ly:(digs BB y.natAbs).length≤100000000000:=hy
  have vx:=digs_val (B:=BB) (by decide) x.natAbs
  have vy:=digs_val (B:=BB) (by decide) y.natAbs
  have d1:=digs_dig (B:=BB) (by decide) (val BB (digs BB x.natAbs)+val BB (digs BB y.natAbs))
  have d2:=digs_dig (B:=BB) (by decide) (val BB (digs BB x.natAbs) - val BB (digs BB y.natAbs))
  have d3:=digs_dig (B:=BB) (by decide) (val BB (digs BB y.natAbs) - val BB (digs BB x.natAbs))
  have l1:(digs BB (val BB (digs BB x.natAbs)+val BB (digs BB y.natAbs))).length≤4611686018427387904:=by
    rw [vx,vy]
    have:=zl_add (x.natAbs:Nat) (y.natAbs:Nat)
    have e1:zl ((x.natAbs:Nat):Int)=zl x:=rfl
    have e2:zl ((y.natAbs:Nat):Int)=zl y:=rfl
    have e3:zl (((x.natAbs:Nat):Int)+((y.natAbs:Nat):Int))=(digs BB (x.natAbs+y.natAbs)).length:=rfl
    omega
  have l2:(digs BB (val BB (digs BB x.natAbs) - val BB (digs BB y.natAbs))).length≤4611686018427387904:=by
    rw [vx,vy]
    have:=zl_mono (x:=((x.natAbs - y.natAbs:Nat):Int)) (y:=x) (by omega)
    have e3:zl ((x.natAbs - y.natAbs:Nat):Int)=(digs BB (x.natAbs - y.natAbs)).length:=rfl
    omega
  have l3:(digs BB (val BB (digs BB y.natAbs) - val BB (digs BB x.natAbs))).length≤4611686018427387904:=by
    rw [vx,vy]
    have:=zl_mono (x:=((y.natAbs - x.natAbs:Nat):Int)) (y:=y) (by omega)
    have e3:zl ((y.natAbs - x.natAbs:Nat):Int)=(digs BB (y.natAbs - x.natAbs)).length:=rfl
    omega
  refine zen Tryz.func216 rfl Tryz.ntmps216 ?_
  intro w0 E0 hc
  repeat' (first|refine zR1 hc Tryz.results216 ?_|(with_reducible first|exact trivial|refine zan ?_ ?_|refine zim (fun h=>?_)|refine zoc (c_parts_s _ ?_ ?_) ?_ ?_|refine zoc (c_parts_b _ ?_) ?_ ?_|refine zoc (c_addWords _ _ ?_ ?_ ?_ ?_) ?_ ?_|refine zoc (c_compareWords _ _ ?_ ?_ ?_) ?_ ?_|refine zoc (c_subWords _ _ ?_ ?_ ?_ ?_ ?_) ?_ ?_|refine zoc (c_made _ _ ?_ ?_) ?_ ?_|fail)|((first|exact dx.lt|exact dy.lt|exact dx|exact dy|exact d1|exact d2|exact d3|exact l1|exact l2|exact l3|exact cmp_le h|exact dig_len dx dy (cmp_le h)|exact Nat.le_of_lt (cmp_lt h)|exact dig_len dy dx (Nat.le_of_lt (cmp_lt h))|omega);done))
  · have hw:IntKind.i64.wrap (x+y)=x+y:=by
      rw [IntKind.wrap_i64] at h ⊢
      by_cases h0:0 < y <;> simp [h0] at h <;> omega
    have hw2:=hw
    rw [IntKind.wrap_i64] at hw2
    exact sub_sm' hw (by omega) (by omega)
  · refine made_of' (by rw [vx,vy]) ?_
    by_cases h0:x < 0 <;> by_cases h3:y < 0 <;> simp [h0,h3] at h ⊢ <;> omega
  · have hle:=cmp_le h
    rename_i g
    refine made_of' (by rw [vx,vy]) ?_
    rw [vx,vy] at hle
    by_cases h0:x < 0 <;> by_cases h3:y < 0 <;> simp [h0,h3] at g ⊢ <;> omega
  · have hle:=cmp_lt h
    rename_i g
    refine made_of' (by rw [vx,vy]) ?_
    rw [vx,vy] at hle
    by_cases h0:x < 0 <;> by_cases h3:y < 0 <;> simp [h0,h3] at g ⊢ <;> omega
theorem c_Add_sb (x y:Int) (h1x:-9223372036854775808≤x) (h2x:x < 9223372036854775808) (hby:9223372036854775808≤y.natAbs) (hx:zl x≤100000000000) (hy:zl y≤100000000000):Ax.Pure Tryz.prog G 216 [smA x,bgA y] (intA (x+y)):=by
  have dx:=digs_dig (B:=BB) (by decide) x.natAbs
  have dy:=digs_dig (B:=BB) (by decide) y.natAbs
  have lx:(digs BB x.natAbs).length≤100000000000:=hx
  have ly:(digs BB y.natAbs).length≤100000000000:=hy
  have vx:=digs_val (B:=BB) (by decide) x.natAbs
  have vy:=digs_val (B:=BB) (by decide) y.natAbs
  have d1:=digs_dig (B:=BB) (by decide) (val BB (digs BB x.natAbs)+val BB (digs BB y.natAbs))
  have d2:=digs_dig (B:=BB) (by decide) (val BB (digs BB x.natAbs) - val BB (digs BB y.natAbs))
  have d3:=digs_dig (B:=BB) (by decide) (val BB (digs BB y.natAbs) - val BB (digs BB x.natAbs))
  have l1:(digs BB (val BB (digs BB x.natAbs)+val BB (digs BB y.natAbs))).length≤4611686018427387904:=by
    rw [vx,vy]
    have:=zl_add (x.natAbs:Nat) (y.natAbs:Nat)
    have e1:zl ((x.natAbs:Nat):Int)=zl x:=rfl
    have e2:zl ((y.natAbs:Nat):Int)=zl y:=rfl
    have e3:zl (((x.natAbs:Nat):Int)+((y.natAbs:Nat):Int))=(digs BB (x.natAbs+y.natAbs)).length:=rfl
    omega
  have l2:(digs BB (val BB (digs BB x.natAbs) - val BB (digs BB y.natAbs))).length≤4611686018427387904:=by
    rw [vx,vy]
    have:=zl_mono (x:=((x.natAbs - y.natAbs:Nat):Int)) (y:=x) (by omega)
    have e3:zl ((x.natAbs - y.natAbs:Nat):Int)=(digs BB (x.natAbs - y.natAbs)).length:=rfl
    omega
  have l3:(digs BB (val BB (digs BB y.natAbs) - val BB (digs BB x.natAbs))).length≤4611686018427387904:=by
    rw [vx,vy]
    have:=zl_mono (x:=((y.natAbs - x.natAbs:Nat):Int)) (y:=y) (by omega)
    have e3:zl ((y.natAbs - x.natAbs:Nat):Int)=(digs BB (y.natAbs - x.natAbs)).length:=rfl
    omega
  refine zen Tryz.func216 rfl Tryz.ntmps216 ?_
  intro w0 E0 hc
  repeat' (first|refine zR1 hc Tryz.results216 ?_|(with_reducible first|exact trivial|refine zan ?_ ?_|refine zim (fun h=>?_)|refine zoc (c_parts_s _ ?_ ?_) ?_ ?_|refine zoc (c_parts_b _ ?_) ?_ ?_|refine zoc (c_addWords _ _ ?_ ?_ ?_ ?_) ?_ ?_|refine zoc (c_compareWords _ _ ?_ ?_ ?_) ?_ ?_|refine zoc (c_subWords _ _ ?_ ?_ ?_ ?_ ?_) ?_ ?_|refine zoc (c_made _ _ ?_ ?_) ?_ ?_|fail)|((first|exact dx.lt|exact dy.lt|exact dx|exact dy|exact d1|exact d2|exact d3|exact l1|exact l2|exact l3|exact cmp_le h|exact dig_len dx dy (cmp_le h)|exact Nat.le_of_lt (cmp_lt h)|exact dig_len dy dx (Nat.le_of_lt (cmp_lt h))|omega);done))
  · refine made_of' (by rw [vx,vy]) ?_
    by_cases h0:x < 0 <;> by_cases h3:y < 0 <;> simp [h0,h3] at h ⊢ <;> omega
  · have hle:=cmp_le h
    rename_i g
    refine made_of' (by rw [vx,vy]) ?_
    rw [vx,vy] at hle
    by_cases h0:x < 0 <;> by_cases h3:y < 0 <;> simp [h0,h3] at g ⊢ <;> omega
  · have hle:=cmp_lt h
    rename_i g
    refine made_of' (by rw [vx,vy]) ?_
    rw [vx,vy] at hle
    by_cases h0:x < 0 <;> by_cases h3:y < 0 <;> simp [h0,h3] at g ⊢ <;> omega
theorem c_Add_bs (x y:Int) (hbx:9223372036854775808≤x.natAbs) (h1y:-9223372036854775808≤y) (h2y:y < 9223372036854775808) (hx:zl x≤100000000000) (hy:zl y≤100000000000):Ax.Pure Tryz.prog G 216 [bgA x,smA y] (intA (x+y)):=by
  have dx:=digs_dig (B:=BB) (by decide) x.natAbs
  have dy:=digs_dig (B:=BB) (by decide) y.natAbs
  have lx:(digs BB x.natAbs).length≤100000000000:=hx
  have ly:(digs BB y.natAbs).length≤100000000000:=hy
  have vx:=digs_val (B:=BB) (by decide) x.natAbs
  have vy:=digs_val (B:=BB) (by decide) y.natAbs
  have d1:=digs_dig (B:=BB) (by decide) (val BB (digs BB x.natAbs)+val BB (digs BB y.natAbs))
  have d2:=digs_dig (B:=BB) (by decide) (val BB (digs BB x.natAbs) - val BB (digs BB y.natAbs))
  have d3:=digs_dig (B:=BB) (by decide) (val BB (digs BB y.natAbs) - val BB (digs BB x.natAbs))
  have l1:(digs BB (val BB (digs BB x.natAbs)+val BB (digs BB y.natAbs))).length≤4611686018427387904:=by
    rw [vx,vy]
    have:=zl_add (x.natAbs:Nat) (y.natAbs:Nat)
    have e1:zl ((x.natAbs:Nat):Int)=zl x:=rfl
    have e2:zl ((y.natAbs:Nat):Int)=zl y:=rfl
    have e3:zl (((x.natAbs:Nat):Int)+((y.natAbs:Nat):Int))=(digs BB (x.natAbs+y.natAbs)).length:=rfl
    omega
  have l2:(digs BB (val BB (digs BB x.natAbs) - val BB (digs BB y.natAbs))).length≤4611686018427387904:=by
    rw [vx,vy]
    have:=zl_mono (x:=((x.natAbs - y.natAbs:Nat):Int)) (y:=x) (by omega)
    have e3:zl ((x.natAbs - y.natAbs:Nat):Int)=(digs BB (x.natAbs - y.natAbs)).length:=rfl
    omega
  have l3:(digs BB (val BB (digs BB y.natAbs) - val BB (digs BB x.natAbs))).length≤4611686018427387904:=by
    rw [vx,vy]
    have:=zl_mono (x:=((y.natAbs - x.natAbs:Nat):Int)) (y:=y) (by omega)
    have e3:zl ((y.natAbs - x.natAbs:Nat):Int)=(digs BB (y.natAbs - x.natAbs)).length:=rfl
    omega
  refine zen Tryz.func216 rfl Tryz.ntmps216 ?_
  intro w0 E0 hc
  repeat' (first|refine zR1 hc Tryz.results216 ?_|(with_reducible first|exact trivial|refine zan ?_ ?_|refine zim (fun h=>?_)|refine zoc (c_parts_s _ ?_ ?_) ?_ ?_|refine zoc (c_parts_b _ ?_) ?_ ?_|refine zoc (c_addWords _ _ ?_ ?_ ?_ ?_) ?_ ?_|refine zoc (c_compareWords _ _ ?_ ?_ ?_) ?_ ?_|refine zoc (c_subWords _ _ ?_ ?_ ?_ ?_ ?_) ?_ ?_|refine zoc (c_made _ _ ?_ ?_) ?_ ?_|fail)|((first|exact dx.lt|exact dy.lt|exact dx|exact dy|exact d1|exact d2|exact d3|exact l1|exact l2|exact l3|exact cmp_le h|exact dig_len dx dy (cmp_le h)|exact Nat.le_of_lt (cmp_lt h)|exact dig_len dy dx (Nat.le_of_lt (cmp_lt h))|omega);done))
  · refine made_of' (by rw [vx,vy]) ?_
    by_cases h0:x < 0 <;> by_cases h3:y < 0 <;> simp [h0,h3] at h ⊢ <;> omega
  · have hle:=cmp_le h
    rename_i g
    refine made_of' (by rw [vx,vy]) ?_
    rw [vx,vy] at hle
    by_cases h0:x < 0 <;> by_cases h3:y < 0 <;> simp [h0,h3] at g ⊢ <;> omega
  · have hle:=cmp_lt h
    rename_i g
    refine made_of' (by rw [vx,vy]) ?_
    rw [vx,vy] at hle
    by_cases h0:x < 0 <;> by_cases h3:y < 0 <;> simp [h0,h3] at g ⊢ <;> omega
theorem c_Add_bb (x y:Int) (hbx:9223372036854775808≤x.natAbs) (hby:9223372036854775808≤y.natAbs) (hx:zl x≤100000000000) (hy:zl y≤100000000000):Ax.Pure Tryz.prog G 216 [bgA x,bgA y] (intA (x+y)):=by
  have dx:=digs_dig (B:=BB) (by decide) x.natAbs
  have dy:=digs_dig (B:=BB) (by decide) y.natAbs
  have lx:(digs BB x.natAbs).length≤100000000000:=hx
  have ly:(digs BB y.natAbs).length≤100000000000:=hy
  have vx:=digs_val (B:=BB) (by decide) x.natAbs
  have vy:=digs_val (B:=BB) (by decide) y.natAbs
  have d1:=digs_dig (B:=BB) (by decide) (val BB (digs BB x.natAbs)+val BB (digs BB y.natAbs))
  have d2:=digs_dig (B:=BB) (by decide) (val BB (digs BB x.natAbs) - val BB (digs BB y.natAbs))
  have d3:=digs_dig (B:=BB) (by decide) (val BB (digs BB y.natAbs) - val BB (digs BB x.natAbs))
  have l1:(digs BB (val BB (digs BB x.natAbs)+val BB (digs BB y.natAbs))).length≤4611686018427387904:=by
    rw [vx,vy]
    have:=zl_add (x.natAbs:Nat) (y.natAbs:Nat)
    have e1:zl ((x.natAbs:Nat):Int)=zl x:=rfl
    have e2:zl ((y.natAbs:Nat):Int)=zl y:=rfl
    have e3:zl (((x.natAbs:Nat):Int)+((y.natAbs:Nat):Int))=(digs BB (x.natAbs+y.natAbs)).length:=rfl
    omega
  have l2:(digs BB (val BB (digs BB x.natAbs) - val BB (digs BB y.natAbs))).length≤4611686018427387904:=by
    rw [vx,vy]
    have:=zl_mono (x:=((x.natAbs - y.natAbs:Nat):Int)) (y:=x) (by omega)
    have e3:zl ((x.natAbs - y.natAbs:Nat):Int)=(digs BB (x.natAbs - y.natAbs)).length:=rfl
    omega
  have l3:(digs BB (val BB (digs BB y.natAbs) - val BB (digs BB x.natAbs))).length≤4611686018427387904:=by
    rw [vx,vy]
    have:=zl_mono (x:=((y.natAbs - x.natAbs:Nat):Int)) (y:=y) (by omega)
    have e3:zl ((y.natAbs - x.natAbs:Nat):Int)=(digs BB (y.natAbs - x.natAbs)).length:=rfl
    omega
  refine zen Tryz.func216 rfl Tryz.ntmps216 ?_
  intro w0 E0 hc
  repeat' (first|refine zR1 hc Tryz.results216 ?_|(with_reducible first|exact trivial|refine zan ?_ ?_|refine zim (fun h=>?_)|refine zoc (c_parts_s _ ?_ ?_) ?_ ?_|refine zoc (c_parts_b _ ?_) ?_ ?_|refine zoc (c_addWords _ _ ?_ ?_ ?_ ?_) ?_ ?_|refine zoc (c_compareWords _ _ ?_ ?_ ?_) ?_ ?_|refine zoc (c_subWords _ _ ?_ ?_ ?_ ?_ ?_) ?_ ?_|refine zoc (c_made _ _ ?_ ?_) ?_ ?_|fail)|((first|exact dx.lt|exact dy.lt|exact dx|exact dy|exact d1|exact d2|exact d3|exact l1|exact l2|exact l3|exact cmp_le h|exact dig_len dx dy (cmp_le h)|exact Nat.le_of_lt (cmp_lt h)|exact dig_len dy dx (Nat.le_of_lt (cmp_lt h))|omega);done))
  · refine made_of' (by rw [vx,vy]) ?_
    by_cases h0:x < 0 <;> by_cases h3:y < 0 <;> simp [h0,h3] at h ⊢ <;> omega
  · have hle:=cmp_le h
    rename_i g
    refine made_of' (by rw [vx,vy]) ?_
    rw [vx,vy] at hle
    by_cases h0:x < 0 <;> by_cases h3:y < 0 <;> simp [h0,h3] at g ⊢ <;> omega
  · have hle:=cmp_lt h
    rename_i g
    refine made_of' (by rw [vx,vy]) ?_
    rw [vx,vy] at hle
    by_cases h0:x < 0 <;> by_cases h3:y < 0 <;> simp [h0,h3] at g ⊢ <;> omega
theorem c_Add (x y:Int) (hx:zl x≤100000000000) (hy:zl y≤100000000000):Ax.Pure Tryz.prog G 216 [intA x,intA y] (intA (x+y)):=
  pure_int [] [intA y] (fun a b=>pure_int [smA x] [] (fun c d=>c_Add_ss x y a b c d hx hy) (fun c=>c_Add_sb x y a b c hx hy))
    (fun a=>pure_int [bgA x] [] (fun c d=>c_Add_bs x y a c d hx hy) (fun c=>c_Add_bb x y a c hx hy))
theorem c_Sub (x y:Int) (hx:zl x≤100000000000) (hy:zl y≤100000000000):Ax.Pure Tryz.prog G 245 [intA x,intA y] (intA (x - y)):=by
  have hy':zl (-y)≤100000000000:=by rw [zl_neg];exact hy
  refine zen Tryz.func245 rfl Tryz.ntmps245 ?_
  intro w0 E0 hc
  repeat' (first|refine zR1 hc Tryz.results245 ?_|(with_reducible first|exact trivial|refine zan ?_ ?_|refine zim (fun h=>?_)|refine zoc (c_Neg _ ?_) ?_ ?_|refine zoc (c_Add _ _ ?_ ?_) ?_ ?_|fail)|((first|exact hy'|omega);done))
  all_goals exact sub_intA (by omega)
end Go.Proofs
end
section
set_option maxHeartbeats 4000000
set_option maxRecDepth 100000
namespace Go.Proofs
open Go.Ax
theorem c0_Mul64 (x y:Int) (h:0≤x∧x < 18446744073709551616∧0≤y∧y < 18446744073709551616):Ax.Pure Tryz.prog G0 249 [U x,U y] (.tup [U (x*y / 18446744073709551616),U (x*y%18446744073709551616)]):=by
  refine zen Tryz.func249 rfl Tryz.ntmps249 ?_
  intro w0 E0 hc
  repeat' (first|refine zR0 hc Tryz.results249 ?_|(with_reducible first|exact trivial|refine zan ?_ ?_|refine zim (fun h=>?_)|fail)|(first|omega|(simp only [IntKind.wrap_i64,IntKind.wrap_u64,Bool.and_self,true_and,and_true];omega);done))
  have hb:IntKind.u64.bits=64:=rfl
  simp only [and_low']
  simp only [hb,shr32]
  refine sub_eq ?_
  have hW:∀a:Int,0≤a→a < 18446744073709551616→IntKind.u64.wrap a=a:=fun a h1 h2=>by rw [IntKind.wrap_u64];omega
  rw [mul64 hW (x:=x) (y:=y) ⟨h.1,h.2.1⟩ ⟨h.2.2.1,h.2.2.2⟩ rfl rfl rfl rfl,IntKind.wrap_u64]
theorem c_Mul64 (x y:Int) (h:0≤x∧x < 18446744073709551616∧0≤y∧y < 18446744073709551616):Ax.Pure Tryz.prog G 249 [U x,U y] (.tup [U (x*y / 18446744073709551616),U (x*y%18446744073709551616)]):=pure_any (c0_Mul64 x y h)
end Go.Proofs
end
