/- Lemmas on the program and its library: part ZW30. -/
import Derived.RangeFuncNested
import Derived.RangeFuncBound
import Derived.RangeFuncCalls
import Derived.RangeFuncLeaves
import Derived.Shelf.Abstract
import Derived.Shelf.RegionOpen
import Derived.WalkKit
import Derived.OwnWalkIn
import Derived.TacticsInMore
import Derived.LoopNIn
import Derived.LoopIn
import Derived.Test.YtoiejgkkcfkliaaGreatDoorZW26
import Derived.Test.YtoiejgkkcfkliaaGreatDoorZW28
set_option linter.unusedVariables false
set_option linter.unusedSimpArgs false
section
set_option maxHeartbeats 4000000
set_option maxRecDepth 1000000
namespace Go.Proofs
open Go.Ax
open Go.RowKit Go.Shelf
theorem e1b (o1 o2 o3 x1 x2 x3 y1 y2 y3 z1 z2 z3:Rat):Ax.Pure Tryz.prog G 198 [fA o1 o2 o3 x1 x2 x3 y1 y2 y3 z1 z2 z3] (.one (.fn (.func 240) [] [.pp [.frac o1,.frac o2,.frac o3,.frac x1,.frac x2,.frac x3,.frac y1,.frac y2,.frac y3,.frac z1,.frac z2,.frac z3]])):=by
  refine r8 Tryz.func198 rfl Tryz.ntmps198 ?_
  intro w0 E0 hc
  repeat' (first|(with_reducible first|refine j0 ?_|refine zwk ?_|refine i6 ?_|refine zgo ?_|refine zbn ?_|refine zge Tryz.results198 ?_|refine Sub.refl _|refine f9|refine w6 (out':=?_) ?_|refine u9 (y:=?_) ?_|refine w5 (eo':=?_) ?_)|(with_reducible refine zrs [1] hc ?_ ?_;focus (with_unfolding_all rfl))|(with_reducible refine zrm [1] hc mixed ?_ ?_;focus (with_unfolding_all rfl))|(with_reducible refine f6 ?_ ?_;focus (first|decide|omega))|(with_reducible first|refine zg2 ?_ ?_|refine zbo ?_|refine zg3 ?_ (fun h=>?_) (fun h=>?_)|refine zg4 (fun h=>?_) (fun h=>?_)|fail)|(omega;done))
  refine a05 hc 0 (sz:=48) (ro:=false) (g:=fun _=> [.frac o1,.frac o2,.frac o3,.frac x1,.frac x2,.frac x3,.frac y1,.frac y2,.frac y3,.frac z1,.frac z2,.frac z3]) (Is.refl _) ⟨trivial,trivial,trivial,trivial,trivial,trivial,trivial,trivial,trivial,trivial,trivial,trivial,trivial⟩ rfl ?_
  refine m7 (st':=n5 [(1,.one (.pp [.frac o1,.frac o2,.frac o3,.frac x1,.frac x2,.frac x3,.frac y1,.frac y2,.frac y3,.frac z1,.frac z2,.frac z3]))] [] 1) ?_ ?_
  · refine zW1 ?_ <;> repeat' (with_reducible first|exact trivial|refine j3 ?_ ?_|refine t7 (fun i hi=>?_))
  repeat' (first|refine n7 hc Tryz.results198 ?_|(with_reducible first|exact trivial|refine j3 ?_ ?_|refine m8 (fun h=>?_)|fail)|(omega;done))
attribute [local go_sem] Oper.semAt_some
def fin3 (k:Nat):List (Fin 3):=[0,1,2].take k
theorem c87 (cs:Array Value) (i:Nat) (hi:i < 3) (w:World):(Instr.index 242 (.agg cs) (.int .i64 i)).run Tryz.prog w= .ok (.agg (cs.extract (i*12) (i*12+12))) w:=by
  have t242:=run_underlying Tryz.underlying242
  have a173:=Tryz.isAgg173
  have z173:=Tryz.sizeOf173
  have h1:(0:Int)≤(i:Int)∧(i:Int) < ((3:Nat):Int):=by omega
  simp [Instr.index,asIntOf,t242,Go.part,a173,z173,asAgg,hi]
theorem s5 {A W:World} {k j:Nat} {cs:Array Value} {T:TypeId} {v:Value} (hk:W.heap[k]?=some (.cells cs T (0,0))) (hv:v.oneCell'=true) (hj:j < cs.size) (hA:A.heap.size≤k) (hg:A.grownBy W none) :
    ∃W',(store ⟨k,j,none⟩ v).run Tryz.prog W= .ok () W'∧W'.heap[k]?=some (.cells (cs.setIfInBounds j v) T (0,0))∧A.grownBy W' none:=by
  have hc:W.cell? ⟨k,j,none⟩=some cs[j]:=by simp [World.cell?,hk,hj]
  have hf:W.frozen? ⟨k,j,none⟩=false:=by simp [World.frozen?,hk]
  refine ⟨W.setCell ⟨k,j,none⟩ v,?_,?_,⟨hg.os,hg.tape,hg.output,?_,fun i hi hr=>?_⟩⟩
  · rw [run_store _ _ _ _ _ hv,hc,hf];rfl
  · simp [World.setCell,Array.getElem?_modify,hk]
  · simpa [World.setCell] using hg.size
  · rw [←hg.block i hi hr]
    simp only [World.setCell,Array.getElem?_modify]
    rw [if_neg (by omega)]
theorem st12 (A:World) (v0 v1 v2 v3 v4 v5 v6 v7 v8 v9 v10 v11:Value) (o0:v0.oneCell'=true) (o1:v1.oneCell'=true) (o2:v2.oneCell'=true) (o3:v3.oneCell'=true) (o4:v4.oneCell'=true) (o5:v5.oneCell'=true) (o6:v6.oneCell'=true) (o7:v7.oneCell'=true) (o8:v8.oneCell'=true) (o9:v9.oneCell'=true) (o10:v10.oneCell'=true) (o11:v11.oneCell'=true):∃W1 W2 W3 W4 W5 W6 W7 W8 W9 W10 W11 W12:World,(store ⟨A.heap.size,0,none⟩ v0).run Tryz.prog (A.alloc (.cells #[.int .i64 0,.slice none 0 0,.int .i64 0,.slice none 0 0,.int .i64 0,.slice none 0 0,.int .i64 0,.slice none 0 0,.int .i64 0,.slice none 0 0,.int .i64 0,.slice none 0 0] 173))= .ok () W1∧(store ⟨A.heap.size,1,none⟩ v1).run Tryz.prog W1= .ok () W2∧(store ⟨A.heap.size,2,none⟩ v2).run Tryz.prog W2= .ok () W3∧(store ⟨A.heap.size,3,none⟩ v3).run Tryz.prog W3= .ok () W4∧(store ⟨A.heap.size,4,none⟩ v4).run Tryz.prog W4= .ok () W5∧(store ⟨A.heap.size,5,none⟩ v5).run Tryz.prog W5= .ok () W6∧(store ⟨A.heap.size,6,none⟩ v6).run Tryz.prog W6= .ok () W7∧(store ⟨A.heap.size,7,none⟩ v7).run Tryz.prog W7= .ok () W8∧(store ⟨A.heap.size,8,none⟩ v8).run Tryz.prog W8= .ok () W9∧(store ⟨A.heap.size,9,none⟩ v9).run Tryz.prog W9= .ok () W10∧(store ⟨A.heap.size,10,none⟩ v10).run Tryz.prog W10= .ok () W11∧(store ⟨A.heap.size,11,none⟩ v11).run Tryz.prog W11= .ok () W12∧W12.heap[A.heap.size]?=some (.cells #[v0,v1,v2,v3,v4,v5,v6,v7,v8,v9,v10,v11] 173 (0,0))∧A.grownBy W12 none:=by
  have b0:(A.alloc (.cells #[.int .i64 0,.slice none 0 0,.int .i64 0,.slice none 0 0,.int .i64 0,.slice none 0 0,.int .i64 0,.slice none 0 0,.int .i64 0,.slice none 0 0,.int .i64 0,.slice none 0 0] 173)).heap[A.heap.size]?=some (.cells #[.int .i64 0,.slice none 0 0,.int .i64 0,.slice none 0 0,.int .i64 0,.slice none 0 0,.int .i64 0,.slice none 0 0,.int .i64 0,.slice none 0 0,.int .i64 0,.slice none 0 0] 173 (0,0)):=heap_alloc_new A _
  have g0:A.grownBy (A.alloc (.cells #[.int .i64 0,.slice none 0 0,.int .i64 0,.slice none 0 0,.int .i64 0,.slice none 0 0,.int .i64 0,.slice none 0 0,.int .i64 0,.slice none 0 0,.int .i64 0,.slice none 0 0] 173)) none:=World.grownBy_alloc A _ none
  obtain ⟨W1,e1,b1,g1⟩:=s5 (j:=0) b0 o0 (show 0 < 12 by decide) (Nat.le_refl _) g0
  have b1:W1.heap[A.heap.size]?=some (.cells #[v0,.slice none 0 0,.int .i64 0,.slice none 0 0,.int .i64 0,.slice none 0 0,.int .i64 0,.slice none 0 0,.int .i64 0,.slice none 0 0,.int .i64 0,.slice none 0 0] 173 (0,0)):=b1
  obtain ⟨W2,e2,b2,g2⟩:=s5 (j:=1) b1 o1 (show 1 < 12 by decide) (Nat.le_refl _) g1
  have b2:W2.heap[A.heap.size]?=some (.cells #[v0,v1,.int .i64 0,.slice none 0 0,.int .i64 0,.slice none 0 0,.int .i64 0,.slice none 0 0,.int .i64 0,.slice none 0 0,.int .i64 0,.slice none 0 0] 173 (0,0)):=b2
  obtain ⟨W3,e3,b3,g3⟩:=s5 (j:=2) b2 o2 (show 2 < 12 by decide) (Nat.le_refl _) g2
  have b3:W3.heap[A.heap.size]?=some (.cells #[v0,v1,v2,.slice none 0 0,.int .i64 0,.slice none 0 0,.int .i64 0,.slice none 0 0,.int .i64 0,.slice none 0 0,.int .i64 0,.slice none 0 0] 173 (0,0)):=b3
  obtain ⟨W4,e4,b4,g4⟩:=s5 (j:=3) b3 o3 (show 3 < 12 by decide) (Nat.le_refl _) g3
  have b4:W4.heap[A.heap.size]?=some (.cells #[v0,v1,v2,v3,.int .i64 0,.slice none 0 0,.int .i64 0,.slice none 0 0,.int .i64 0,.slice none 0 0,.int .i64 0,.slice none 0 0] 173 (0,0)):=b4
  obtain ⟨W5,e5,b5,g5⟩:=s5 (j:=4) b4 o4 (show 4 < 12 by decide) (Nat.le_refl _) g4
  have b5:W5.heap[A.heap.size]?=some (.cells #[v0,v1,v2,v3,v4,.slice none 0 0,.int .i64 0,.slice none 0 0,.int .i64 0,.slice none 0 0,.int .i64 0,.slice none 0 0] 173 (0,0)):=b5
  obtain ⟨W6,e6,b6,g6⟩:=s5 (j:=5) b5 o5 (show 5 < 12 by decide) (Nat.le_refl _) g5
  have b6:W6.heap[A.heap.size]?=some (.cells #[v0,v1,v2,v3,v4,v5,.int .i64 0,.slice none 0 0,.int .i64 0,.slice none 0 0,.int .i64 0,.slice none 0 0] 173 (0,0)):=b6
  obtain ⟨W7,e7,b7,g7⟩:=s5 (j:=6) b6 o6 (show 6 < 12 by decide) (Nat.le_refl _) g6
  have b7:W7.heap[A.heap.size]?=some (.cells #[v0,v1,v2,v3,v4,v5,v6,.slice none 0 0,.int .i64 0,.slice none 0 0,.int .i64 0,.slice none 0 0] 173 (0,0)):=b7
  obtain ⟨W8,e8,b8,g8⟩:=s5 (j:=7) b7 o7 (show 7 < 12 by decide) (Nat.le_refl _) g7
  have b8:W8.heap[A.heap.size]?=some (.cells #[v0,v1,v2,v3,v4,v5,v6,v7,.int .i64 0,.slice none 0 0,.int .i64 0,.slice none 0 0] 173 (0,0)):=b8
  obtain ⟨W9,e9,b9,g9⟩:=s5 (j:=8) b8 o8 (show 8 < 12 by decide) (Nat.le_refl _) g8
  have b9:W9.heap[A.heap.size]?=some (.cells #[v0,v1,v2,v3,v4,v5,v6,v7,v8,.slice none 0 0,.int .i64 0,.slice none 0 0] 173 (0,0)):=b9
  obtain ⟨W10,e10,b10,g10⟩:=s5 (j:=9) b9 o9 (show 9 < 12 by decide) (Nat.le_refl _) g9
  have b10:W10.heap[A.heap.size]?=some (.cells #[v0,v1,v2,v3,v4,v5,v6,v7,v8,v9,.int .i64 0,.slice none 0 0] 173 (0,0)):=b10
  obtain ⟨W11,e11,b11,g11⟩:=s5 (j:=10) b10 o10 (show 10 < 12 by decide) (Nat.le_refl _) g10
  have b11:W11.heap[A.heap.size]?=some (.cells #[v0,v1,v2,v3,v4,v5,v6,v7,v8,v9,v10,.slice none 0 0] 173 (0,0)):=b11
  obtain ⟨W12,e12,b12,g12⟩:=s5 (j:=11) b11 o11 (show 11 < 12 by decide) (Nat.le_refl _) g11
  have b12:W12.heap[A.heap.size]?=some (.cells #[v0,v1,v2,v3,v4,v5,v6,v7,v8,v9,v10,v11] 173 (0,0)):=b12
  exact ⟨W1,W2,W3,W4,W5,W6,W7,W8,W9,W10,W11,W12,e1,e2,e3,e4,e5,e6,e7,e8,e9,e10,e11,e12,b12,g12⟩
theorem d4g (F:Fence) (n:Nat) (h240:F.fn 240) (hro:F.round=none) (hn:1≤n) (l b o n₀:Nat) (hb:b < n₀) (c12 c13 c14 c15 c16 c17 c18 c19 c20 c21 c22 c23 c24 c25 c26 c27 c28 c29 c30 c31 c32 c33 c34 c35 c36 c37 c38 c39 c40 c41 c42 c43 c44 c45 c46 c47:Value) (oc12:c12.oneCell'=true) (oc13:c13.oneCell'=true) (oc14:c14.oneCell'=true) (oc15:c15.oneCell'=true) (oc16:c16.oneCell'=true) (oc17:c17.oneCell'=true) (oc18:c18.oneCell'=true) (oc19:c19.oneCell'=true) (oc20:c20.oneCell'=true) (oc21:c21.oneCell'=true) (oc22:c22.oneCell'=true) (oc23:c23.oneCell'=true) (oc24:c24.oneCell'=true) (oc25:c25.oneCell'=true) (oc26:c26.oneCell'=true) (oc27:c27.oneCell'=true) (oc28:c28.oneCell'=true) (oc29:c29.oneCell'=true) (oc30:c30.oneCell'=true) (oc31:c31.oneCell'=true) (oc32:c32.oneCell'=true) (oc33:c33.oneCell'=true) (oc34:c34.oneCell'=true) (oc35:c35.oneCell'=true) (oc36:c36.oneCell'=true) (oc37:c37.oneCell'=true) (oc38:c38.oneCell'=true) (oc39:c39.oneCell'=true) (oc40:c40.oneCell'=true) (oc41:c41.oneCell'=true) (oc42:c42.oneCell'=true) (oc43:c43.oneCell'=true) (oc44:c44.oneCell'=true) (oc45:c45.oneCell'=true) (oc46:c46.oneCell'=true) (oc47:c47.oneCell'=true) (J Jx:List (Fin 3)→World→Prop) (W:World) (hW:n₀≤W.heap.size)
    (hc12:W.cell? ⟨b,o+12,none⟩=some c12) (hc13:W.cell? ⟨b,o+13,none⟩=some c13) (hc14:W.cell? ⟨b,o+14,none⟩=some c14) (hc15:W.cell? ⟨b,o+15,none⟩=some c15) (hc16:W.cell? ⟨b,o+16,none⟩=some c16) (hc17:W.cell? ⟨b,o+17,none⟩=some c17) (hc18:W.cell? ⟨b,o+18,none⟩=some c18) (hc19:W.cell? ⟨b,o+19,none⟩=some c19) (hc20:W.cell? ⟨b,o+20,none⟩=some c20) (hc21:W.cell? ⟨b,o+21,none⟩=some c21) (hc22:W.cell? ⟨b,o+22,none⟩=some c22) (hc23:W.cell? ⟨b,o+23,none⟩=some c23) (hc24:W.cell? ⟨b,o+24,none⟩=some c24) (hc25:W.cell? ⟨b,o+25,none⟩=some c25) (hc26:W.cell? ⟨b,o+26,none⟩=some c26) (hc27:W.cell? ⟨b,o+27,none⟩=some c27) (hc28:W.cell? ⟨b,o+28,none⟩=some c28) (hc29:W.cell? ⟨b,o+29,none⟩=some c29) (hc30:W.cell? ⟨b,o+30,none⟩=some c30) (hc31:W.cell? ⟨b,o+31,none⟩=some c31) (hc32:W.cell? ⟨b,o+32,none⟩=some c32) (hc33:W.cell? ⟨b,o+33,none⟩=some c33) (hc34:W.cell? ⟨b,o+34,none⟩=some c34) (hc35:W.cell? ⟨b,o+35,none⟩=some c35) (hc36:W.cell? ⟨b,o+36,none⟩=some c36) (hc37:W.cell? ⟨b,o+37,none⟩=some c37) (hc38:W.cell? ⟨b,o+38,none⟩=some c38) (hc39:W.cell? ⟨b,o+39,none⟩=some c39) (hc40:W.cell? ⟨b,o+40,none⟩=some c40) (hc41:W.cell? ⟨b,o+41,none⟩=some c41) (hc42:W.cell? ⟨b,o+42,none⟩=some c42) (hc43:W.cell? ⟨b,o+43,none⟩=some c43) (hc44:W.cell? ⟨b,o+44,none⟩=some c44) (hc45:W.cell? ⟨b,o+45,none⟩=some c45) (hc46:W.cell? ⟨b,o+46,none⟩=some c46) (hc47:W.cell? ⟨b,o+47,none⟩=some c47)
    (hJ:AbidesFrom W.heap.size J) (hJx:AbidesFrom W.heap.size Jx)
    (hY:∀pre x W1,J pre W1→pre.length < 3→YieldAt F (n - 1) Tryz.prog l #[.agg ([#[c12,c13,c14,c15,c16,c17,c18,c19,c20,c21,c22,c23],#[c24,c25,c26,c27,c28,c29,c30,c31,c32,c33,c34,c35],#[c36,c37,c38,c39,c40,c41,c42,c43,c44,c45,c46,c47]].getD x.val #[])] W1 fun e W'=>
      (e= .returned (.bool true)∧J (pre++ [x]) W'∧Below n₀ W1 W')∨(e= .returned (.bool false)∧Jx (pre++ [x]) W')) (h0:J [] W) :
    CallsIn F n Tryz.prog 240 #[.func (.yield l) #[] #[],.pointer (some ⟨b,o,none⟩)] W fun e W'=>(∃v,e= .returned v)∧((∃xs,xs= [0,1,2]∧J xs W')∨(∃pre,True∧Jx pre W')):=by
  have t177:=Tryz.underlying177;have a177:=Tryz.isAgg177;have z177:=Tryz.sizeOf177
  have t173:=Tryz.underlying173;have a173:=Tryz.isAgg173;have z173:=Tryz.sizeOf173;have v173:=Tryz.zeroValue173
  have t242:=Tryz.underlying242;have a242:=Tryz.isAgg242;have z242:=Tryz.sizeOf242
  refine callsIn_of_wp Tryz.func240 rfl h240 ?_ hro
  simp only [Tryz.ntmps240,List.size_toArray,List.length_cons,List.length_nil,Nat.reduceAdd,Nat.reduceSub,Array.replicate_succ,Array.replicate_zero,List.push_toArray,List.append_toArray,List.nil_append,List.cons_append]
  gi_wp2
  gi_loopw [12] (fun i wr=>∃k:Nat,k≤3∧i= .int .i64 k∧J (fin3 k) wr∧Below n₀ W wr) (fun i _=>3 - (intOf i).toNat)
  case atStart=>exact ⟨0,Nat.zero_le _,rfl,h0,Below.refl _ _⟩
  case round=>
    obtain ⟨k,hk,rfl,hJs,hnx⟩:=hrel
    have:k=0∨k=1∨k=2∨k=3:=by omega
    rcases this with rfl|rfl|rfl|rfl
    · have hix:∀w,(Instr.index 242 (.agg #[c12,c13,c14,c15,c16,c17,c18,c19,c20,c21,c22,c23,c24,c25,c26,c27,c28,c29,c30,c31,c32,c33,c34,c35,c36,c37,c38,c39,c40,c41,c42,c43,c44,c45,c46,c47]) (.int .i64 0)).run Tryz.prog w= .ok (.agg #[c12,c13,c14,c15,c16,c17,c18,c19,c20,c21,c22,c23]) w:=fun w=>c87 _ 0 (by decide) w
      have b0:(wr.alloc (.cells #[.int .i64 0,.slice none 0 0,.int .i64 0,.slice none 0 0,.int .i64 0,.slice none 0 0,.int .i64 0,.slice none 0 0,.int .i64 0,.slice none 0 0,.int .i64 0,.slice none 0 0] 173)).heap[wr.heap.size]?=some (.cells #[.int .i64 0,.slice none 0 0,.int .i64 0,.slice none 0 0,.int .i64 0,.slice none 0 0,.int .i64 0,.slice none 0 0,.int .i64 0,.slice none 0 0,.int .i64 0,.slice none 0 0] 173 (0,0)):=heap_alloc_new wr _
      have g0:wr.grownBy (wr.alloc (.cells #[.int .i64 0,.slice none 0 0,.int .i64 0,.slice none 0 0,.int .i64 0,.slice none 0 0,.int .i64 0,.slice none 0 0,.int .i64 0,.slice none 0 0,.int .i64 0,.slice none 0 0] 173)) none:=World.grownBy_alloc wr _ none
      obtain ⟨W1,e1,b1,g1⟩:=s5 (j:=0) b0 oc12 (show 0 < 12 by decide) (Nat.le_refl _) g0
      have b1:W1.heap[wr.heap.size]?=some (.cells #[c12,.slice none 0 0,.int .i64 0,.slice none 0 0,.int .i64 0,.slice none 0 0,.int .i64 0,.slice none 0 0,.int .i64 0,.slice none 0 0,.int .i64 0,.slice none 0 0] 173 (0,0)):=b1
      clear b0 g0
      obtain ⟨W2,e2,b2,g2⟩:=s5 (j:=1) b1 oc13 (show 1 < 12 by decide) (Nat.le_refl _) g1
      have b2:W2.heap[wr.heap.size]?=some (.cells #[c12,c13,.int .i64 0,.slice none 0 0,.int .i64 0,.slice none 0 0,.int .i64 0,.slice none 0 0,.int .i64 0,.slice none 0 0,.int .i64 0,.slice none 0 0] 173 (0,0)):=b2
      clear b1 g1
      obtain ⟨W3,e3,b3,g3⟩:=s5 (j:=2) b2 oc14 (show 2 < 12 by decide) (Nat.le_refl _) g2
      have b3:W3.heap[wr.heap.size]?=some (.cells #[c12,c13,c14,.slice none 0 0,.int .i64 0,.slice none 0 0,.int .i64 0,.slice none 0 0,.int .i64 0,.slice none 0 0,.int .i64 0,.slice none 0 0] 173 (0,0)):=b3
      clear b2 g2
      obtain ⟨W4,e4,b4,g4⟩:=s5 (j:=3) b3 oc15 (show 3 < 12 by decide) (Nat.le_refl _) g3
      have b4:W4.heap[wr.heap.size]?=some (.cells #[c12,c13,c14,c15,.int .i64 0,.slice none 0 0,.int .i64 0,.slice none 0 0,.int .i64 0,.slice none 0 0,.int .i64 0,.slice none 0 0] 173 (0,0)):=b4
      clear b3 g3
      obtain ⟨W5,e5,b5,g5⟩:=s5 (j:=4) b4 oc16 (show 4 < 12 by decide) (Nat.le_refl _) g4
      have b5:W5.heap[wr.heap.size]?=some (.cells #[c12,c13,c14,c15,c16,.slice none 0 0,.int .i64 0,.slice none 0 0,.int .i64 0,.slice none 0 0,.int .i64 0,.slice none 0 0] 173 (0,0)):=b5
      clear b4 g4
      obtain ⟨W6,e6,b6,g6⟩:=s5 (j:=5) b5 oc17 (show 5 < 12 by decide) (Nat.le_refl _) g5
      have b6:W6.heap[wr.heap.size]?=some (.cells #[c12,c13,c14,c15,c16,c17,.int .i64 0,.slice none 0 0,.int .i64 0,.slice none 0 0,.int .i64 0,.slice none 0 0] 173 (0,0)):=b6
      clear b5 g5
      obtain ⟨W7,e7,b7,g7⟩:=s5 (j:=6) b6 oc18 (show 6 < 12 by decide) (Nat.le_refl _) g6
      have b7:W7.heap[wr.heap.size]?=some (.cells #[c12,c13,c14,c15,c16,c17,c18,.slice none 0 0,.int .i64 0,.slice none 0 0,.int .i64 0,.slice none 0 0] 173 (0,0)):=b7
      clear b6 g6
      obtain ⟨W8,e8,b8,g8⟩:=s5 (j:=7) b7 oc19 (show 7 < 12 by decide) (Nat.le_refl _) g7
      have b8:W8.heap[wr.heap.size]?=some (.cells #[c12,c13,c14,c15,c16,c17,c18,c19,.int .i64 0,.slice none 0 0,.int .i64 0,.slice none 0 0] 173 (0,0)):=b8
      clear b7 g7
      obtain ⟨W9,e9,b9,g9⟩:=s5 (j:=8) b8 oc20 (show 8 < 12 by decide) (Nat.le_refl _) g8
      have b9:W9.heap[wr.heap.size]?=some (.cells #[c12,c13,c14,c15,c16,c17,c18,c19,c20,.slice none 0 0,.int .i64 0,.slice none 0 0] 173 (0,0)):=b9
      clear b8 g8
      obtain ⟨W10,e10,b10,g10⟩:=s5 (j:=9) b9 oc21 (show 9 < 12 by decide) (Nat.le_refl _) g9
      have b10:W10.heap[wr.heap.size]?=some (.cells #[c12,c13,c14,c15,c16,c17,c18,c19,c20,c21,.int .i64 0,.slice none 0 0] 173 (0,0)):=b10
      clear b9 g9
      obtain ⟨W11,e11,b11,g11⟩:=s5 (j:=10) b10 oc22 (show 10 < 12 by decide) (Nat.le_refl _) g10
      have b11:W11.heap[wr.heap.size]?=some (.cells #[c12,c13,c14,c15,c16,c17,c18,c19,c20,c21,c22,.slice none 0 0] 173 (0,0)):=b11
      clear b10 g10
      obtain ⟨W12,e12,b12,g12⟩:=s5 (j:=11) b11 oc23 (show 11 < 12 by decide) (Nat.le_refl _) g11
      have b12:W12.heap[wr.heap.size]?=some (.cells #[c12,c13,c14,c15,c16,c17,c18,c19,c20,c21,c22,c23] 173 (0,0)):=b12
      have l0:W12.cell? ⟨wr.heap.size,0,none⟩=some c12:=by simp [World.cell?,b12]
      have l1:W12.cell? ⟨wr.heap.size,1,none⟩=some c13:=by simp [World.cell?,b12]
      have l2:W12.cell? ⟨wr.heap.size,2,none⟩=some c14:=by simp [World.cell?,b12]
      have l3:W12.cell? ⟨wr.heap.size,3,none⟩=some c15:=by simp [World.cell?,b12]
      have l4:W12.cell? ⟨wr.heap.size,4,none⟩=some c16:=by simp [World.cell?,b12]
      have l5:W12.cell? ⟨wr.heap.size,5,none⟩=some c17:=by simp [World.cell?,b12]
      have l6:W12.cell? ⟨wr.heap.size,6,none⟩=some c18:=by simp [World.cell?,b12]
      have l7:W12.cell? ⟨wr.heap.size,7,none⟩=some c19:=by simp [World.cell?,b12]
      have l8:W12.cell? ⟨wr.heap.size,8,none⟩=some c20:=by simp [World.cell?,b12]
      have l9:W12.cell? ⟨wr.heap.size,9,none⟩=some c21:=by simp [World.cell?,b12]
      have l10:W12.cell? ⟨wr.heap.size,10,none⟩=some c22:=by simp [World.cell?,b12]
      have l11:W12.cell? ⟨wr.heap.size,11,none⟩=some c23:=by simp [World.cell?,b12]
      have hJ12:J (fin3 0) W12:=hJ _ _ _ _ hJs g12 (fun r e=>by cases e)
      obtain ⟨fn,tmps,assign,body,hy,hR⟩:=hY _ 0 W12 hJ12 (by decide)
      have hy:(Instr.yield l #[.agg #[c12,c13,c14,c15,c16,c17,c18,c19,c20,c21,c22,c23]]).run Tryz.prog W12= .ok (.round l fn tmps assign body) W12:=hy
      have hb12:Below n₀ wr W12:=⟨g12.os,g12.tape,g12.output,g12.size,fun i hi=>g12.block i (by have:=hnx.size;omega) (fun e=>(by cases e))⟩
      gi_wp2
      refine hR.mono ?_
      rintro e W3 (⟨rfl,hJ3,hk3⟩|⟨rfl,hJx3⟩)
      · gi_wp2
        go_roundw
        case rel=>exact ⟨1,by omega,rfl,hJ3,(hnx.trans hb12).trans hk3⟩
        case measure=>simp [intOf]
      · gi_wp2
        refine bodyPost_ret (results_none rfl _ _ _) rfl ?_
        exact ⟨⟨_,rfl⟩,.inr ⟨_,trivial,hJx3⟩⟩
    · have hix:∀w,(Instr.index 242 (.agg #[c12,c13,c14,c15,c16,c17,c18,c19,c20,c21,c22,c23,c24,c25,c26,c27,c28,c29,c30,c31,c32,c33,c34,c35,c36,c37,c38,c39,c40,c41,c42,c43,c44,c45,c46,c47]) (.int .i64 1)).run Tryz.prog w= .ok (.agg #[c24,c25,c26,c27,c28,c29,c30,c31,c32,c33,c34,c35]) w:=fun w=>c87 _ 1 (by decide) w
      have b0:(wr.alloc (.cells #[.int .i64 0,.slice none 0 0,.int .i64 0,.slice none 0 0,.int .i64 0,.slice none 0 0,.int .i64 0,.slice none 0 0,.int .i64 0,.slice none 0 0,.int .i64 0,.slice none 0 0] 173)).heap[wr.heap.size]?=some (.cells #[.int .i64 0,.slice none 0 0,.int .i64 0,.slice none 0 0,.int .i64 0,.slice none 0 0,.int .i64 0,.slice none 0 0,.int .i64 0,.slice none 0 0,.int .i64 0,.slice none 0 0] 173 (0,0)):=heap_alloc_new wr _
      have g0:wr.grownBy (wr.alloc (.cells #[.int .i64 0,.slice none 0 0,.int .i64 0,.slice none 0 0,.int .i64 0,.slice none 0 0,.int .i64 0,.slice none 0 0,.int .i64 0,.slice none 0 0,.int .i64 0,.slice none 0 0] 173)) none:=World.grownBy_alloc wr _ none
      obtain ⟨W1,e1,b1,g1⟩:=s5 (j:=0) b0 oc24 (show 0 < 12 by decide) (Nat.le_refl _) g0
      have b1:W1.heap[wr.heap.size]?=some (.cells #[c24,.slice none 0 0,.int .i64 0,.slice none 0 0,.int .i64 0,.slice none 0 0,.int .i64 0,.slice none 0 0,.int .i64 0,.slice none 0 0,.int .i64 0,.slice none 0 0] 173 (0,0)):=b1
      clear b0 g0
      obtain ⟨W2,e2,b2,g2⟩:=s5 (j:=1) b1 oc25 (show 1 < 12 by decide) (Nat.le_refl _) g1
      have b2:W2.heap[wr.heap.size]?=some (.cells #[c24,c25,.int .i64 0,.slice none 0 0,.int .i64 0,.slice none 0 0,.int .i64 0,.slice none 0 0,.int .i64 0,.slice none 0 0,.int .i64 0,.slice none 0 0] 173 (0,0)):=b2
      clear b1 g1
      obtain ⟨W3,e3,b3,g3⟩:=s5 (j:=2) b2 oc26 (show 2 < 12 by decide) (Nat.le_refl _) g2
      have b3:W3.heap[wr.heap.size]?=some (.cells #[c24,c25,c26,.slice none 0 0,.int .i64 0,.slice none 0 0,.int .i64 0,.slice none 0 0,.int .i64 0,.slice none 0 0,.int .i64 0,.slice none 0 0] 173 (0,0)):=b3
      clear b2 g2
      obtain ⟨W4,e4,b4,g4⟩:=s5 (j:=3) b3 oc27 (show 3 < 12 by decide) (Nat.le_refl _) g3
      have b4:W4.heap[wr.heap.size]?=some (.cells #[c24,c25,c26,c27,.int .i64 0,.slice none 0 0,.int .i64 0,.slice none 0 0,.int .i64 0,.slice none 0 0,.int .i64 0,.slice none 0 0] 173 (0,0)):=b4
      clear b3 g3
      obtain ⟨W5,e5,b5,g5⟩:=s5 (j:=4) b4 oc28 (show 4 < 12 by decide) (Nat.le_refl _) g4
      have b5:W5.heap[wr.heap.size]?=some (.cells #[c24,c25,c26,c27,c28,.slice none 0 0,.int .i64 0,.slice none 0 0,.int .i64 0,.slice none 0 0,.int .i64 0,.slice none 0 0] 173 (0,0)):=b5
      clear b4 g4
      obtain ⟨W6,e6,b6,g6⟩:=s5 (j:=5) b5 oc29 (show 5 < 12 by decide) (Nat.le_refl _) g5
      have b6:W6.heap[wr.heap.size]?=some (.cells #[c24,c25,c26,c27,c28,c29,.int .i64 0,.slice none 0 0,.int .i64 0,.slice none 0 0,.int .i64 0,.slice none 0 0] 173 (0,0)):=b6
      clear b5 g5
      obtain ⟨W7,e7,b7,g7⟩:=s5 (j:=6) b6 oc30 (show 6 < 12 by decide) (Nat.le_refl _) g6
      have b7:W7.heap[wr.heap.size]?=some (.cells #[c24,c25,c26,c27,c28,c29,c30,.slice none 0 0,.int .i64 0,.slice none 0 0,.int .i64 0,.slice none 0 0] 173 (0,0)):=b7
      clear b6 g6
      obtain ⟨W8,e8,b8,g8⟩:=s5 (j:=7) b7 oc31 (show 7 < 12 by decide) (Nat.le_refl _) g7
      have b8:W8.heap[wr.heap.size]?=some (.cells #[c24,c25,c26,c27,c28,c29,c30,c31,.int .i64 0,.slice none 0 0,.int .i64 0,.slice none 0 0] 173 (0,0)):=b8
      clear b7 g7
      obtain ⟨W9,e9,b9,g9⟩:=s5 (j:=8) b8 oc32 (show 8 < 12 by decide) (Nat.le_refl _) g8
      have b9:W9.heap[wr.heap.size]?=some (.cells #[c24,c25,c26,c27,c28,c29,c30,c31,c32,.slice none 0 0,.int .i64 0,.slice none 0 0] 173 (0,0)):=b9
      clear b8 g8
      obtain ⟨W10,e10,b10,g10⟩:=s5 (j:=9) b9 oc33 (show 9 < 12 by decide) (Nat.le_refl _) g9
      have b10:W10.heap[wr.heap.size]?=some (.cells #[c24,c25,c26,c27,c28,c29,c30,c31,c32,c33,.int .i64 0,.slice none 0 0] 173 (0,0)):=b10
      clear b9 g9
      obtain ⟨W11,e11,b11,g11⟩:=s5 (j:=10) b10 oc34 (show 10 < 12 by decide) (Nat.le_refl _) g10
      have b11:W11.heap[wr.heap.size]?=some (.cells #[c24,c25,c26,c27,c28,c29,c30,c31,c32,c33,c34,.slice none 0 0] 173 (0,0)):=b11
      clear b10 g10
      obtain ⟨W12,e12,b12,g12⟩:=s5 (j:=11) b11 oc35 (show 11 < 12 by decide) (Nat.le_refl _) g11
      have b12:W12.heap[wr.heap.size]?=some (.cells #[c24,c25,c26,c27,c28,c29,c30,c31,c32,c33,c34,c35] 173 (0,0)):=b12
      have l0:W12.cell? ⟨wr.heap.size,0,none⟩=some c24:=by simp [World.cell?,b12]
      have l1:W12.cell? ⟨wr.heap.size,1,none⟩=some c25:=by simp [World.cell?,b12]
      have l2:W12.cell? ⟨wr.heap.size,2,none⟩=some c26:=by simp [World.cell?,b12]
      have l3:W12.cell? ⟨wr.heap.size,3,none⟩=some c27:=by simp [World.cell?,b12]
      have l4:W12.cell? ⟨wr.heap.size,4,none⟩=some c28:=by simp [World.cell?,b12]
      have l5:W12.cell? ⟨wr.heap.size,5,none⟩=some c29:=by simp [World.cell?,b12]
      have l6:W12.cell? ⟨wr.heap.size,6,none⟩=some c30:=by simp [World.cell?,b12]
      have l7:W12.cell? ⟨wr.heap.size,7,none⟩=some c31:=by simp [World.cell?,b12]
      have l8:W12.cell? ⟨wr.heap.size,8,none⟩=some c32:=by simp [World.cell?,b12]
      have l9:W12.cell? ⟨wr.heap.size,9,none⟩=some c33:=by simp [World.cell?,b12]
      have l10:W12.cell? ⟨wr.heap.size,10,none⟩=some c34:=by simp [World.cell?,b12]
      have l11:W12.cell? ⟨wr.heap.size,11,none⟩=some c35:=by simp [World.cell?,b12]
      have hJ12:J (fin3 1) W12:=hJ _ _ _ _ hJs g12 (fun r e=>by cases e)
      obtain ⟨fn,tmps,assign,body,hy,hR⟩:=hY _ 1 W12 hJ12 (by decide)
      have hy:(Instr.yield l #[.agg #[c24,c25,c26,c27,c28,c29,c30,c31,c32,c33,c34,c35]]).run Tryz.prog W12= .ok (.round l fn tmps assign body) W12:=hy
      have hb12:Below n₀ wr W12:=⟨g12.os,g12.tape,g12.output,g12.size,fun i hi=>g12.block i (by have:=hnx.size;omega) (fun e=>(by cases e))⟩
      gi_wp2
      refine hR.mono ?_
      rintro e W3 (⟨rfl,hJ3,hk3⟩|⟨rfl,hJx3⟩)
      · gi_wp2
        go_roundw
        case rel=>exact ⟨2,by omega,rfl,hJ3,(hnx.trans hb12).trans hk3⟩
        case measure=>simp [intOf]
      · gi_wp2
        refine bodyPost_ret (results_none rfl _ _ _) rfl ?_
        exact ⟨⟨_,rfl⟩,.inr ⟨_,trivial,hJx3⟩⟩
    · have hix:∀w,(Instr.index 242 (.agg #[c12,c13,c14,c15,c16,c17,c18,c19,c20,c21,c22,c23,c24,c25,c26,c27,c28,c29,c30,c31,c32,c33,c34,c35,c36,c37,c38,c39,c40,c41,c42,c43,c44,c45,c46,c47]) (.int .i64 2)).run Tryz.prog w= .ok (.agg #[c36,c37,c38,c39,c40,c41,c42,c43,c44,c45,c46,c47]) w:=fun w=>c87 _ 2 (by decide) w
      have b0:(wr.alloc (.cells #[.int .i64 0,.slice none 0 0,.int .i64 0,.slice none 0 0,.int .i64 0,.slice none 0 0,.int .i64 0,.slice none 0 0,.int .i64 0,.slice none 0 0,.int .i64 0,.slice none 0 0] 173)).heap[wr.heap.size]?=some (.cells #[.int .i64 0,.slice none 0 0,.int .i64 0,.slice none 0 0,.int .i64 0,.slice none 0 0,.int .i64 0,.slice none 0 0,.int .i64 0,.slice none 0 0,.int .i64 0,.slice none 0 0] 173 (0,0)):=heap_alloc_new wr _
      have g0:wr.grownBy (wr.alloc (.cells #[.int .i64 0,.slice none 0 0,.int .i64 0,.slice none 0 0,.int .i64 0,.slice none 0 0,.int .i64 0,.slice none 0 0,.int .i64 0,.slice none 0 0,.int .i64 0,.slice none 0 0] 173)) none:=World.grownBy_alloc wr _ none
      obtain ⟨W1,e1,b1,g1⟩:=s5 (j:=0) b0 oc36 (show 0 < 12 by decide) (Nat.le_refl _) g0
      have b1:W1.heap[wr.heap.size]?=some (.cells #[c36,.slice none 0 0,.int .i64 0,.slice none 0 0,.int .i64 0,.slice none 0 0,.int .i64 0,.slice none 0 0,.int .i64 0,.slice none 0 0,.int .i64 0,.slice none 0 0] 173 (0,0)):=b1
      clear b0 g0
      obtain ⟨W2,e2,b2,g2⟩:=s5 (j:=1) b1 oc37 (show 1 < 12 by decide) (Nat.le_refl _) g1
      have b2:W2.heap[wr.heap.size]?=some (.cells #[c36,c37,.int .i64 0,.slice none 0 0,.int .i64 0,.slice none 0 0,.int .i64 0,.slice none 0 0,.int .i64 0,.slice none 0 0,.int .i64 0,.slice none 0 0] 173 (0,0)):=b2
      clear b1 g1
      obtain ⟨W3,e3,b3,g3⟩:=s5 (j:=2) b2 oc38 (show 2 < 12 by decide) (Nat.le_refl _) g2
      have b3:W3.heap[wr.heap.size]?=some (.cells #[c36,c37,c38,.slice none 0 0,.int .i64 0,.slice none 0 0,.int .i64 0,.slice none 0 0,.int .i64 0,.slice none 0 0,.int .i64 0,.slice none 0 0] 173 (0,0)):=b3
      clear b2 g2
      obtain ⟨W4,e4,b4,g4⟩:=s5 (j:=3) b3 oc39 (show 3 < 12 by decide) (Nat.le_refl _) g3
      have b4:W4.heap[wr.heap.size]?=some (.cells #[c36,c37,c38,c39,.int .i64 0,.slice none 0 0,.int .i64 0,.slice none 0 0,.int .i64 0,.slice none 0 0,.int .i64 0,.slice none 0 0] 173 (0,0)):=b4
      clear b3 g3
      obtain ⟨W5,e5,b5,g5⟩:=s5 (j:=4) b4 oc40 (show 4 < 12 by decide) (Nat.le_refl _) g4
      have b5:W5.heap[wr.heap.size]?=some (.cells #[c36,c37,c38,c39,c40,.slice none 0 0,.int .i64 0,.slice none 0 0,.int .i64 0,.slice none 0 0,.int .i64 0,.slice none 0 0] 173 (0,0)):=b5
      clear b4 g4
      obtain ⟨W6,e6,b6,g6⟩:=s5 (j:=5) b5 oc41 (show 5 < 12 by decide) (Nat.le_refl _) g5
      have b6:W6.heap[wr.heap.size]?=some (.cells #[c36,c37,c38,c39,c40,c41,.int .i64 0,.slice none 0 0,.int .i64 0,.slice none 0 0,.int .i64 0,.slice none 0 0] 173 (0,0)):=b6
      clear b5 g5
      obtain ⟨W7,e7,b7,g7⟩:=s5 (j:=6) b6 oc42 (show 6 < 12 by decide) (Nat.le_refl _) g6
      have b7:W7.heap[wr.heap.size]?=some (.cells #[c36,c37,c38,c39,c40,c41,c42,.slice none 0 0,.int .i64 0,.slice none 0 0,.int .i64 0,.slice none 0 0] 173 (0,0)):=b7
      clear b6 g6
      obtain ⟨W8,e8,b8,g8⟩:=s5 (j:=7) b7 oc43 (show 7 < 12 by decide) (Nat.le_refl _) g7
      have b8:W8.heap[wr.heap.size]?=some (.cells #[c36,c37,c38,c39,c40,c41,c42,c43,.int .i64 0,.slice none 0 0,.int .i64 0,.slice none 0 0] 173 (0,0)):=b8
      clear b7 g7
      obtain ⟨W9,e9,b9,g9⟩:=s5 (j:=8) b8 oc44 (show 8 < 12 by decide) (Nat.le_refl _) g8
      have b9:W9.heap[wr.heap.size]?=some (.cells #[c36,c37,c38,c39,c40,c41,c42,c43,c44,.slice none 0 0,.int .i64 0,.slice none 0 0] 173 (0,0)):=b9
      clear b8 g8
      obtain ⟨W10,e10,b10,g10⟩:=s5 (j:=9) b9 oc45 (show 9 < 12 by decide) (Nat.le_refl _) g9
      have b10:W10.heap[wr.heap.size]?=some (.cells #[c36,c37,c38,c39,c40,c41,c42,c43,c44,c45,.int .i64 0,.slice none 0 0] 173 (0,0)):=b10
      clear b9 g9
      obtain ⟨W11,e11,b11,g11⟩:=s5 (j:=10) b10 oc46 (show 10 < 12 by decide) (Nat.le_refl _) g10
      have b11:W11.heap[wr.heap.size]?=some (.cells #[c36,c37,c38,c39,c40,c41,c42,c43,c44,c45,c46,.slice none 0 0] 173 (0,0)):=b11
      clear b10 g10
      obtain ⟨W12,e12,b12,g12⟩:=s5 (j:=11) b11 oc47 (show 11 < 12 by decide) (Nat.le_refl _) g11
      have b12:W12.heap[wr.heap.size]?=some (.cells #[c36,c37,c38,c39,c40,c41,c42,c43,c44,c45,c46,c47] 173 (0,0)):=b12
      have l0:W12.cell? ⟨wr.heap.size,0,none⟩=some c36:=by simp [World.cell?,b12]
      have l1:W12.cell? ⟨wr.heap.size,1,none⟩=some c37:=by simp [World.cell?,b12]
      have l2:W12.cell? ⟨wr.heap.size,2,none⟩=some c38:=by simp [World.cell?,b12]
      have l3:W12.cell? ⟨wr.heap.size,3,none⟩=some c39:=by simp [World.cell?,b12]
      have l4:W12.cell? ⟨wr.heap.size,4,none⟩=some c40:=by simp [World.cell?,b12]
      have l5:W12.cell? ⟨wr.heap.size,5,none⟩=some c41:=by simp [World.cell?,b12]
      have l6:W12.cell? ⟨wr.heap.size,6,none⟩=some c42:=by simp [World.cell?,b12]
      have l7:W12.cell? ⟨wr.heap.size,7,none⟩=some c43:=by simp [World.cell?,b12]
      have l8:W12.cell? ⟨wr.heap.size,8,none⟩=some c44:=by simp [World.cell?,b12]
      have l9:W12.cell? ⟨wr.heap.size,9,none⟩=some c45:=by simp [World.cell?,b12]
      have l10:W12.cell? ⟨wr.heap.size,10,none⟩=some c46:=by simp [World.cell?,b12]
      have l11:W12.cell? ⟨wr.heap.size,11,none⟩=some c47:=by simp [World.cell?,b12]
      have hJ12:J (fin3 2) W12:=hJ _ _ _ _ hJs g12 (fun r e=>by cases e)
      obtain ⟨fn,tmps,assign,body,hy,hR⟩:=hY _ 2 W12 hJ12 (by decide)
      have hy:(Instr.yield l #[.agg #[c36,c37,c38,c39,c40,c41,c42,c43,c44,c45,c46,c47]]).run Tryz.prog W12= .ok (.round l fn tmps assign body) W12:=hy
      have hb12:Below n₀ wr W12:=⟨g12.os,g12.tape,g12.output,g12.size,fun i hi=>g12.block i (by have:=hnx.size;omega) (fun e=>(by cases e))⟩
      gi_wp2
      refine hR.mono ?_
      rintro e W3 (⟨rfl,hJ3,hk3⟩|⟨rfl,hJx3⟩)
      · gi_wp2
        go_roundw
        case rel=>exact ⟨3,by omega,rfl,hJ3,(hnx.trans hb12).trans hk3⟩
        case measure=>simp [intOf]
      · gi_wp2
        refine bodyPost_ret (results_none rfl _ _ _) rfl ?_
        exact ⟨⟨_,rfl⟩,.inr ⟨_,trivial,hJx3⟩⟩
    · gi_wp2
      refine bodyPost_end (results_none rfl _ _ _) rfl ?_
      exact ⟨⟨_,rfl⟩,.inl ⟨_,rfl,hJs⟩⟩
end Go.Proofs
end
