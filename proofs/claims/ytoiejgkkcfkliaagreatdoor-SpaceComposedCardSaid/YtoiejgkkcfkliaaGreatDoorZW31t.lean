/- Lemmas on the program and its library: part ZW31t. -/
import Derived.RangeFuncNested
import Derived.RangeFuncBound
import Derived.RangeFuncCalls
import Derived.RangeFuncLeaves
import Derived.Shelf.Abstract
import Derived.Shelf.RegionOpen
import Derived.WalkKit
import Derived.OwnWalkIn
import Derived.TacticsInMore
import Derived.LoopNIn
import Derived.LoopIn
import Derived.Test.YtoiejgkkcfkliaaGreatDoorZW26
import Derived.Test.YtoiejgkkcfkliaaGreatDoorZW27
import Derived.Test.YtoiejgkkcfkliaaGreatDoorZAx19
set_option linter.unusedVariables false
set_option linter.unusedSimpArgs false
section
set_option maxHeartbeats 4000000
set_option maxRecDepth 1000000
namespace Go.Proofs
open Go.Ax
open Go.RowKit Go.Shelf
attribute [local go_sem] Oper.semAt_some
def c4s:Code→Code
  | .seq _ y=>y
  | c=>c
def c70 (fn:Func):Code:=fn.body.getD .skip
def RetI (r:Int) (e:Exit) (st:St):Prop:=e= .ret∧st.t 2= .one (.ptr 1 1 0 0)∧∃g,st.h 1=some ⟨1,1,g,false⟩∧g 0= [.v (.int .i64 r)]
theorem b07 (o1 o2 o3 x1 x2 x3 y1 y2 y3 z1 z2 z3:Rat) {k:Nat} (hk:k≤1000000) (hx:Q k x1∧Q k x2∧Q k x3) (hy:Q k y1∧Q k y2∧Q k y3) (hz:Q k z1∧Q k z2∧Q k z3):Ax.Pure Tryz.prog G 199 [fA o1 o2 o3 x1 x2 x3 y1 y2 y3 z1 z2 z3] (Bo (decide (c7 x1 x2 x3 y1 y2 y3=0∧c7 y1 y2 y3 z1 z2 z3=0∧c7 z1 z2 z3 x1 x2 x3=0))):=by
  obtain ⟨hx1,hx2,hx3⟩:=hx
  obtain ⟨hy1,hy2,hy3⟩:=hy
  obtain ⟨hz1,hz2,hz3⟩:=hz
  have c_1:=a77 (k:=k) (by omega) x1 x2 x3 y1 y2 y3 hx1 hx2 hx3 hy1 hy2 hy3
  have c_2:=a77 (k:=k) (by omega) y1 y2 y3 z1 z2 z3 hy1 hy2 hy3 hz1 hz2 hz3
  have c_3:=a77 (k:=k) (by omega) z1 z2 z3 x1 x2 x3 hz1 hz2 hz3 hx1 hx2 hx3
  generalize c7 x1 x2 x3 y1 y2 y3=p at *
  generalize c7 y1 y2 y3 z1 z2 z3=q at *
  generalize c7 z1 z2 z3 x1 x2 x3=r at *
  have s1:=@a2a p
  have s2:=@a2a q
  have s3:=@a2a r
  refine r8 Tryz.func199 rfl Tryz.ntmps199 ?_
  intro w0 E0 hc
  repeat' (first|refine n7 hc Tryz.results199 ?_|(with_reducible first|exact trivial|refine j3 ?_ ?_|refine m8 (fun h=>?_)|refine c9 c_1 ?_ ?_|refine c9 c_2 ?_ ?_|refine c9 c_3 ?_ ?_|refine c9 (a7m _) ?_ ?_|fail)|(omega;done))
  · rw [decide_eq_decide.2 (show (p=0∧q=0∧r=0)↔r.num.sign=0 from ⟨fun h=>s3.2 h.2.2,fun h=>⟨s1.1 (by assumption),s2.1 (by assumption),s3.1 h⟩⟩)]
    exact Sub.refl _
  · rw [decide_eq_false (fun h=>absurd (s2.2 h.2.1) (by assumption))];exact Sub.refl _
  · rw [decide_eq_false (fun h=>absurd (s1.2 h.1) (by assumption))];exact Sub.refl _
theorem gbB {n:Nat} {W W':World} (hn:n≤W.heap.size) (h:W.grownBy W' none):RowKit.Below n W W':=⟨h.os,h.tape,h.output,h.size,fun k hk=>h.block k (Nat.lt_of_lt_of_le hk hn) (fun e=>(by cases e))⟩
theorem c9e {A W:World} {k j:Nat} {cs:Array Value} {T:TypeId} (v:Value) (hk:W.heap[k]?=some (.cells cs T (0,0))) (hj:j < cs.size) (hA:A.heap.size≤k) (hg:A.grownBy W none) :
    W.cell? ⟨k,j,none⟩=some cs[j]∧W.frozen? ⟨k,j,none⟩=false∧(W.setCell ⟨k,j,none⟩ v).heap[k]?=some (.cells (cs.setIfInBounds j v) T (0,0))∧A.grownBy (W.setCell ⟨k,j,none⟩ v) none∧(W.setCell ⟨k,j,none⟩ v).heap.size=W.heap.size∧∀i,i≠k→(W.setCell ⟨k,j,none⟩ v).heap[i]?=W.heap[i]?:=by
  have ho:∀i,i≠k→(W.setCell ⟨k,j,none⟩ v).heap[i]?=W.heap[i]?:=fun i hi=>by
    simp only [World.setCell,Array.getElem?_modify]
    rw [if_neg (fun e=>hi e.symm)]
  refine ⟨by simp [World.cell?,hk,hj],by simp [World.frozen?,hk],?_,⟨hg.os,hg.tape,hg.output,?_,fun i hi hr=>?_⟩,?_,ho⟩
  · simp [World.setCell,Array.getElem?_modify,hk]
  · simpa [World.setCell] using hg.size
  · rw [←hg.block i hi hr];exact ho i (by omega)
  · simp [World.setCell]
theorem c1p {n D:Nat} {w0 W:World} {ob:Obj} (hD:n≤D) (hK:W.heap[D]?=some ob) (h:RowKit.Below n w0 W):RowKit.Below n w0 (W.putObj D (.deferred none)):=
  h.trans ⟨rfl,rfl,rfl,Nat.le_of_eq (by simp [World.putObj]),fun k hk=>World.putObj_heap_other (by omega)⟩
theorem c64 {F:Fence} {n:Nat} {fn:Func} {a:Act} {E0:u6} {w0 W:World} {D k2:Nat} {cs:Array Value} {T:TypeId} {r r':Int} (hr:fn.results=#[.cell 2 24]) (hh:W.heap[k2]?=some (.cells cs T (0,0))) (h6:cs[0]?=some (.int .i64 r)) (hK:W.heap[D]?=some (.deferred (some []))) (e:r'=r) (hb:RowKit.Below w0.heap.size w0 (W.putObj D (.deferred none))) (h2:a.tmps.getD 2 undef= .pointer (some ⟨k2,0,none⟩):=by rfl) :
    LeavesInM F n Tryz.prog fn a.tmps (fun e w'=>∃v,e= .returned v∧RV E0 w' (N r') v∧RowKit.Below w0.heap.size w0 w') [] .returning (W.putObj D (.deferred none)):=by
  have hne:D≠k2:=fun e=>by subst e;rw [hh] at hK;cases hK
  have hh':(W.putObj D (.deferred none)).heap[k2]?=some (.cells cs T (0,0)):=(World.putObj_heap_other (Ne.symm hne)).trans hh
  have hc:(W.putObj D (.deferred none)).cell? ⟨k2,0,none⟩=some (.int .i64 r):=by simp [World.cell?,hh',h6]
  have h24:=Tryz.isAgg24
  have hlv:(loadVar 24 ⟨k2,0,none⟩).run Tryz.prog (W.putObj D (.deferred none))= .ok (.int .i64 r) (W.putObj D (.deferred none)):=by simp [loadVar,h24,hc]
  subst e
  refine ⟨.int .i64 r',?_,_,rfl,⟨rfl,rfl,rfl⟩,hb⟩
  rw [Array.getD_eq_getD_getElem?] at h2
  simp [results,hr,h2,hlv,asAddr]
def zv (x1 x2 x3 y1 y2 y3 z1 z2 z3:Rat) (i:Fin 3):Bool:=[decide (x1=0∧x2=0∧x3=0),decide (y1=0∧y2=0∧y3=0),decide (z1=0∧z2=0∧z3=0)].getD i.val false
def axE (x1 x2 x3 y1 y2 y3 z1 z2 z3:Rat):Int:=if (∃i,zv x1 x2 x3 y1 y2 y3 z1 z2 z3 i=true) then 6 else if (c7 x1 x2 x3 y1 y2 y3=0∧c7 y1 y2 y3 z1 z2 z3=0∧c7 z1 z2 z3 x1 x2 x3=0)∧0 < a94 x1 x2 x3 y1 y2 y3 z1 z2 z3 then 0 else 15
theorem d1f {q:Rat}:q.num.sign≤0↔¬0 < q:=by
  rw [show 0 < q↔0 < q.num by rw [Rat.lt_iff];simp]
  rcases Int.lt_trichotomy q.num 0 with h|h|h
  · rw [Int.sign_eq_neg_one_of_neg h];omega
  · rw [h];decide
  · rw [Int.sign_eq_one_of_pos h];omega
theorem c8h (o1 o2 o3 x1 x2 x3 y1 y2 y3 z1 z2 z3:Rat) (qx:Q 2400 x1∧Q 2400 x2∧Q 2400 x3) (qy:Q 2400 y1∧Q 2400 y2∧Q 2400 y3) (qz:Q 2400 z1∧Q 2400 z2∧Q 2400 z3) (w0:World) (E0:u6) (W':Nat→Prop) (d:List Deferred) (fv:AV) (hc:a0d ⟨Tryz.prog,tt,G,Tryz.f92.ntmps,w0,E0,0,W',0,d⟩) (hno:¬∃i,zv x1 x2 x3 y1 y2 y3 z1 z2 z3 i=true) :
    Wp ⟨Tryz.prog,tt,G,Tryz.f92.ntmps,w0,E0,0,W',0,d⟩ (c4s (c4s (c4s (c4s (c70 Tryz.f92))))) (RetI (axE x1 x2 x3 y1 y2 y3 z1 z2 z3)) (n5 [(2,.one (.ptr 1 1 0 0)),(4,.one (.ptr 2 48 0 0)),(22,fv)] [(1,⟨1,1,fun _=> [.v (.int .i64 0)],false⟩),(2,⟨48,1,fun _=> [.frac o1,.frac o2,.frac o3,.frac x1,.frac x2,.frac x3,.frac y1,.frac y2,.frac y3,.frac z1,.frac z2,.frac z3],false⟩)] 3):=by
  have c_o:=b07 o1 o2 o3 x1 x2 x3 y1 y2 y3 z1 z2 z3 (k:=2400) (by decide) qx qy qz
  have c_d:=c_Det x1 x2 x3 y1 y2 y3 z1 z2 z3 ⟨c8 qx.1 rfl,c8 qx.2.1 rfl,c8 qx.2.2 rfl,c8 qy.1 rfl,c8 qy.2.1 rfl,c8 qy.2.2 rfl,c8 qz.1 rfl,c8 qz.2.1 rfl,c8 qz.2.2 rfl⟩
  have haxE:axE x1 x2 x3 y1 y2 y3 z1 z2 z3=if (c7 x1 x2 x3 y1 y2 y3=0∧c7 y1 y2 y3 z1 z2 z3=0∧c7 z1 z2 z3 x1 x2 x3=0)∧0 < a94 x1 x2 x3 y1 y2 y3 z1 z2 z3 then 0 else 15:=by rw [axE,if_neg hno]
  generalize axE x1 x2 x3 y1 y2 y3 z1 z2 z3=r at *
  generalize a94 x1 x2 x3 y1 y2 y3 z1 z2 z3=dt at *
  generalize c7 x1 x2 x3 y1 y2 y3=d1 at *
  generalize c7 y1 y2 y3 z1 z2 z3=d2 at *
  generalize c7 z1 z2 z3 x1 x2 x3=d3 at *
  unfold c70
  unfold Tryz.f92 at hc ⊢
  dsimp only [c4s,Option.getD_some] at hc ⊢
  repeat' (first|refine n7 hc Tryz.results92 ?_|(with_reducible first|exact trivial|refine j3 ?_ ?_|refine m8 (fun h=>?_)|refine c9 c_o ?_ ?_|refine c9 c_d ?_ ?_|refine c9 (a7m _) ?_ ?_|refine c9 (a91 _ _) ?_ ?_|fail)|(omega;done))
  · refine ⟨rfl,rfl,_,rfl,?_⟩
    have ho:d1=0∧d2=0∧d3=0:=by
      have hh:(!decide (d1=0∧d2=0∧d3=0))=false:=by assumption
      simpa using hh
    by_cases hp:0 < dt
    · rw [haxE,if_pos (⟨ho,hp⟩:(d1=0∧d2=0∧d3=0)∧0 < dt),decide_eq_false (fun h=>absurd hp (d1f.1 h))];rfl
    · rw [haxE,if_neg (fun h:(d1=0∧d2=0∧d3=0)∧0 < dt=>hp h.2),decide_eq_true (d1f.2 hp)];rfl
  · refine ⟨rfl,rfl,_,rfl,?_⟩
    have ho:¬(d1=0∧d2=0∧d3=0):=by
      have hh:(!decide (d1=0∧d2=0∧d3=0))=true:=by assumption
      exact fun h=>by rw [decide_eq_true h] at hh;cases hh
    rw [haxE,if_neg (fun h:(d1=0∧d2=0∧d3=0)∧0 < dt=>ho h.1)];rfl
end Go.Proofs
end
