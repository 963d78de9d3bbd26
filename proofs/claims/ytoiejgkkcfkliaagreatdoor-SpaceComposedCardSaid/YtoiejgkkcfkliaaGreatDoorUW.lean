/- Lemmas on the program and its library: part UW. -/
import Derived.RangeFuncNested
import Derived.RangeFuncBound
import Derived.RangeFuncCalls
import Derived.RangeFuncLeaves
import Derived.Shelf.Abstract
import Derived.Shelf.RegionOpen
import Derived.WalkKit
import Derived.OwnWalkIn
import Derived.TacticsInMore
import Derived.LoopNIn
import Derived.LoopIn
import Derived.Test.YtoiejgkkcfkliaaGreatDoorZW33
import Derived.Test.YtoiejgkkcfkliaaGreatDoorZW34
set_option linter.unusedVariables false
set_option linter.unusedSimpArgs false
section
namespace Go.Proofs
open Go.Ax
abbrev txV (v:V3):AV:=.agg (a3r v)
end Go.Proofs
end
section
set_option maxHeartbeats 4000000
set_option maxRecDepth 100000
namespace Go.Proofs
open Go.Ax
theorem c76 (a b c d e f:Rat) (h0:c7 d e f d e f≠0) (hb:rz a≤10000000∧rz b≤10000000∧rz c≤10000000∧rz d≤10000000∧rz e≤10000000∧rz f≤10000000):Ax.Pure Tryz.prog G 237 [vA d e f,.one (.pp [.frac a,.frac b,.frac c])] (a0h (c7 a b c d e f / c7 d e f d e f)):=by
  have q1:=a8d a b c d e f
  have q2:=a8d d e f d e f
  unfold c7 at *
  refine r8 Tryz.func237 rfl Tryz.ntmps237 ?_
  intro w0 E0 hc
  repeat' (first|refine n7 hc Tryz.results237 ?_|(with_reducible first|exact trivial|refine j3 ?_ ?_|refine m8 (fun h=>?_)|refine c9 (c1s _ _ _ _ _ _ ?_) ?_ ?_|refine c9 (b3m _ _ ?_ ?_ ?_) ?_ ?_|fail)|((first|exact h0|omega);done))
theorem a61 (o1 o2 o3 x1 x2 x3 y1 y2 y3 z1 z2 z3 a b c:Rat) (hx:c7 x1 x2 x3 x1 x2 x3≠0) (hy:c7 y1 y2 y3 y1 y2 y3≠0) (hz:c7 z1 z2 z3 z1 z2 z3≠0) (hb:rz x1≤1000000∧rz x2≤1000000∧rz x3≤1000000∧rz y1≤1000000∧rz y2≤1000000∧rz y3≤1000000∧rz z1≤1000000∧rz z2≤1000000∧rz z3≤1000000∧rz a≤1000000∧rz b≤1000000∧rz c≤1000000):Ax.Pure Tryz.prog G 183 [fA o1 o2 o3 x1 x2 x3 y1 y2 y3 z1 z2 z3,vA a b c] (vA (c7 a b c x1 x2 x3 / c7 x1 x2 x3 x1 x2 x3) (c7 a b c y1 y2 y3 / c7 y1 y2 y3 y1 y2 y3) (c7 a b c z1 z2 z3 / c7 z1 z2 z3 z1 z2 z3)):=by
  have c_p1:=c76 a b c x1 x2 x3 hx (by omega)
  have c_p2:=c76 a b c y1 y2 y3 hy (by omega)
  have c_p3:=c76 a b c z1 z2 z3 hz (by omega)
  refine r8 Tryz.func183 rfl Tryz.ntmps183 ?_
  intro w0 E0 hc
  repeat' (first|(with_reducible first|refine j0 ?_|refine zwk ?_|refine i6 ?_|refine zgo ?_|refine zbn ?_|refine zge Tryz.results183 ?_|refine Sub.refl _|refine f9|refine w6 (out':=?_) ?_|refine u9 (y:=?_) ?_|refine w5 (eo':=?_) ?_)|(with_reducible refine zrs [2] hc ?_ ?_;focus (with_unfolding_all rfl))|(with_reducible refine zrm [2] hc mixed ?_ ?_;focus (with_unfolding_all rfl))|(with_reducible refine f6 ?_ ?_;focus (first|decide|omega))|(with_reducible first|refine zg2 ?_ ?_|refine zbo ?_|refine zg3 ?_ (fun h=>?_) (fun h=>?_)|refine zg4 (fun h=>?_) (fun h=>?_)|fail)|(omega;done))
  refine a05 hc 1 (sz:=12) (ro:=false) (g:=fun _=> [.frac a,.frac b,.frac c]) (Is.refl _) ⟨trivial,trivial,trivial,trivial⟩ rfl ?_
  refine m7 (st':=n5 [(2,.one (.ptr 0 48 0 0)),(4,.one (.ptr 2 12 0 0)),(5,.one (.fn (.func 237) [] [.pp [.frac a,.frac b,.frac c]]))] [(0,⟨48,1,fun _=> [.frac o1,.frac o2,.frac o3,.frac x1,.frac x2,.frac x3,.frac y1,.frac y2,.frac y3,.frac z1,.frac z2,.frac z3],false⟩),(2,⟨12,1,fun _=> [.v (.int .i64 0),.v (.slice none 0 0),.v (.int .i64 0),.v (.slice none 0 0),.v (.int .i64 0),.v (.slice none 0 0),.v (.int .i64 0),.v (.slice none 0 0),.v (.int .i64 0),.v (.slice none 0 0),.v (.int .i64 0),.v (.slice none 0 0)],false⟩)] 3) ?_ ?_
  · refine zW1 ?_ <;> repeat' (with_reducible first|exact trivial|refine j3 ?_ ?_|refine t7 (fun i hi=>?_))
  repeat' (first|refine n7 hc Tryz.results183 ?_|(with_reducible first|exact trivial|refine j3 ?_ ?_|refine m8 (fun h=>?_)|refine c9 c_p1 ?_ ?_|refine c9 c_p2 ?_ ?_|refine c9 c_p3 ?_ ?_|fail)|(omega;done))
theorem b03 (o1 o2 o3 x1 x2 x3 y1 y2 y3 z1 z2 z3 a b c:Rat) (hx:c7 x1 x2 x3 x1 x2 x3≠0) (hy:c7 y1 y2 y3 y1 y2 y3≠0) (hz:c7 z1 z2 z3 z1 z2 z3≠0) (hb:rz x1≤100000∧rz x2≤100000∧rz x3≤100000∧rz y1≤100000∧rz y2≤100000∧rz y3≤100000∧rz z1≤100000∧rz z2≤100000∧rz z3≤100000∧rz a≤100000∧rz b≤100000∧rz c≤100000∧rz o1≤100000∧rz o2≤100000∧rz o3≤100000):Ax.Pure Tryz.prog G 181 [fA o1 o2 o3 x1 x2 x3 y1 y2 y3 z1 z2 z3,vA a b c] (vA (c7 (a - o1) (b - o2) (c - o3) x1 x2 x3 / c7 x1 x2 x3 x1 x2 x3) (c7 (a - o1) (b - o2) (c - o3) y1 y2 y3 / c7 y1 y2 y3 y1 y2 y3) (c7 (a - o1) (b - o2) (c - o3) z1 z2 z3 / c7 z1 z2 z3 z1 z2 z3)):=by
  have s1:=c4n a o1
  have s2:=c4n b o2
  have s3:=c4n c o3
  have c_l:=a61 o1 o2 o3 x1 x2 x3 y1 y2 y3 z1 z2 z3 (a - o1) (b - o2) (c - o3) hx hy hz (by omega)
  refine r8 Tryz.func181 rfl Tryz.ntmps181 ?_
  intro w0 E0 hc
  repeat' (first|refine n7 hc Tryz.results181 ?_|(with_reducible first|exact trivial|refine j3 ?_ ?_|refine m8 (fun h=>?_)|refine c9 (c3d _ _ _ _ _ _ ?_) ?_ ?_|refine c9 c_l ?_ ?_|fail)|(omega;done))
end Go.Proofs
end
section
namespace Go.Proofs
open Go.Ax
theorem c8f {a b e:Int} (h:e=u5 [a,b]):Ax.Pure Tryz.prog G 143 [.one (.row 1 2 (fun i=> [[i7.v (.int .i64 a)],[i7.v (.int .i64 b)]].getD i []))] (N e):=h ▸ a4l a b
end Go.Proofs
end
section
set_option maxHeartbeats 4000000
set_option maxRecDepth 1000000
namespace Go.Proofs
open Go.Ax
open Go.RowKit Go.Shelf
attribute [local go_sem] Oper.semAt_some
theorem b67 (a b c d:V3) (ha:u7 a) (hb:u7 b) (hc':u7 c) (hd:u7 d) (he:a3e [a,b,c,d]≠0):Ax.Pure Tryz.prog G 92 [.agg (a3r a++a3r b++a3r c++a3r d)] (N (a3e [a,b,c,d])):=by
  have c_c:=b4t a b c d ha hb hc' hd
  generalize a3e [a,b,c,d]=e at *
  refine r8 Tryz.func92 rfl Tryz.ntmps92 ?_
  intro w0 E0 hc
  repeat' (first|refine n7 hc Tryz.results92 ?_|(with_reducible first|exact trivial|refine j3 ?_ ?_|refine m8 (fun h=>?_)|refine c9 c_c ?_ ?_|fail)|((first|omega|exact absurd (by assumption) he);done))
end Go.Proofs
end
section
set_option maxHeartbeats 4000000
set_option maxRecDepth 100000
namespace Go.Proofs
open Go.Ax
def FrE (a b c d:V3) (e:Int):Prop:=(e=a3e [a,b,c,d]∧e≠0)∨∃o1 o2 o3 x1 x2 x3 y1 y2 y3 z1 z2 z3:Rat,(a=v3 o1 o2 o3∧b=v3 x1 x2 x3∧c=v3 y1 y2 y3∧d=v3 z1 z2 z3)∧(okV o1 o2 o3∧okV x1 x2 x3∧okV y1 y2 y3∧okV z1 z2 z3)∧e=axE x1 x2 x3 y1 y2 y3 z1 z2 z3
abbrev txF (a b c d:V3):AV:=tF a.1 a.2.1 a.2.2 b.1 b.2.1 b.2.2 c.1 c.2.1 c.2.2 d.1 d.2.1 d.2.2
theorem a6p {a b c d:V3} {e:Int} (ha:u7 a) (hb:u7 b) (hc:u7 c) (hd:u7 d) (h:FrE a b c d e):Ax.Pure Tryz.prog G 92 [txF a b c d] (N e):=by
  rcases h with ⟨rfl,h⟩|⟨o1,o2,o3,x1,x2,x3,y1,y2,y3,z1,z2,z3,⟨rfl,rfl,rfl,rfl⟩,⟨h1,h2,h3,h4⟩,rfl⟩
  · exact b67 a b c d ha hb hc hd h
  · exact b5l o1 o2 o3 x1 x2 x3 y1 y2 y3 z1 z2 z3 h1 h2 h3 h4
theorem e1x {k:Nat} (hk:k≤1000000) (o1 o2 o3 x1 x2 x3 y1 y2 y3 z1 z2 z3:Rat) (qo:Q k o1∧Q k o2∧Q k o3) (qx:Q k x1∧Q k x2∧Q k x3) (qy:Q k y1∧Q k y2∧Q k y3) (qz:Q k z1∧Q k z2∧Q k z3) (ho:(c7 x1 x2 x3 y1 y2 y3=0∧c7 y1 y2 y3 z1 z2 z3=0∧c7 z1 z2 z3 x1 x2 x3=0)) (hb:b3j o1 o2 o3 x1 x2 x3 y1 y2 y3 z1 z2 z3=true):Ax.Pure Tryz.prog G 178 [fA o1 o2 o3 x1 x2 x3 y1 y2 y3 z1 z2 z3] (.tup [tF [] [] [] [] [] [] [] [] [] [] [] [],N 4]):=by
  have c_o:=b07 o1 o2 o3 x1 x2 x3 y1 y2 y3 z1 z2 z3 hk qx qy qz
  have c_l:=b14 hk o1 o2 o3 x1 x2 x3 y1 y2 y3 z1 z2 z3 qo qx qy qz
  have c_t:=b4m hk o1 o2 o3 x1 x2 x3 y1 y2 y3 z1 z2 z3 qo qx qy qz
  rw [decide_eq_true ho] at c_o
  rw [hb] at c_l
  have c_f:=(show Ax.Pure Tryz.prog G 143 [.one (.row 1 2 (fun i=> [[i7.v (.int .i64 0)],[i7.v (.int .i64 4)]].getD i []))] (N 4) from a4l 0 4)
  refine r8 Tryz.func178 rfl Tryz.ntmps178 ?_
  intro w0 E0 hc
  repeat' (first|refine n7 hc Tryz.results178 ?_|(with_reducible first|exact trivial|refine j3 ?_ ?_|refine m8 (fun h=>?_)|refine c9 c_o ?_ ?_|refine c9 c_l ?_ ?_|refine c9 c_t ?_ ?_|refine c9 (c_wt _) ?_ ?_|refine c9 (c_wf _) ?_ ?_|refine c9 (c98 _) ?_ ?_|refine c9 (c97 _) ?_ ?_|refine c9 c_f ?_ ?_|fail)|((first|omega|exact absurd rfl (by assumption)|(refine nf1 ?_;assumption)|(refine nf2 ?_;assumption));done))
theorem d9m {k:Nat} (hk:k≤1000000) (o1 o2 o3 x1 x2 x3 y1 y2 y3 z1 z2 z3:Rat) (qo:Q k o1∧Q k o2∧Q k o3) (qx:Q k x1∧Q k x2∧Q k x3) (qy:Q k y1∧Q k y2∧Q k y3) (qz:Q k z1∧Q k z2∧Q k z3) (ho:¬(c7 x1 x2 x3 y1 y2 y3=0∧c7 y1 y2 y3 z1 z2 z3=0∧c7 z1 z2 z3 x1 x2 x3=0)) (hb:b3j o1 o2 o3 x1 x2 x3 y1 y2 y3 z1 z2 z3=false):Ax.Pure Tryz.prog G 178 [fA o1 o2 o3 x1 x2 x3 y1 y2 y3 z1 z2 z3] (.tup [tF [] [] [] [] [] [] [] [] [] [] [] [],N 15]):=by
  have c_o:=b07 o1 o2 o3 x1 x2 x3 y1 y2 y3 z1 z2 z3 hk qx qy qz
  have c_l:=b14 hk o1 o2 o3 x1 x2 x3 y1 y2 y3 z1 z2 z3 qo qx qy qz
  have c_t:=b4m hk o1 o2 o3 x1 x2 x3 y1 y2 y3 z1 z2 z3 qo qx qy qz
  rw [decide_eq_false ho] at c_o
  rw [hb] at c_l
  have c_f:=(show Ax.Pure Tryz.prog G 143 [.one (.row 1 2 (fun i=> [[i7.v (.int .i64 15)],[i7.v (.int .i64 0)]].getD i []))] (N 15) from a4l 15 0)
  refine r8 Tryz.func178 rfl Tryz.ntmps178 ?_
  intro w0 E0 hc
  repeat' (first|refine n7 hc Tryz.results178 ?_|(with_reducible first|exact trivial|refine j3 ?_ ?_|refine m8 (fun h=>?_)|refine c9 c_o ?_ ?_|refine c9 c_l ?_ ?_|refine c9 c_t ?_ ?_|refine c9 (c_wt _) ?_ ?_|refine c9 (c_wf _) ?_ ?_|refine c9 (c98 _) ?_ ?_|refine c9 (c97 _) ?_ ?_|refine c9 c_f ?_ ?_|fail)|((first|omega|exact absurd rfl (by assumption)|(refine nf1 ?_;assumption)|(refine nf2 ?_;assumption));done))
theorem d62 {k:Nat} (hk:k≤1000000) (o1 o2 o3 x1 x2 x3 y1 y2 y3 z1 z2 z3:Rat) (qo:Q k o1∧Q k o2∧Q k o3) (qx:Q k x1∧Q k x2∧Q k x3) (qy:Q k y1∧Q k y2∧Q k y3) (qz:Q k z1∧Q k z2∧Q k z3) (ho:¬(c7 x1 x2 x3 y1 y2 y3=0∧c7 y1 y2 y3 z1 z2 z3=0∧c7 z1 z2 z3 x1 x2 x3=0)) (hb:b3j o1 o2 o3 x1 x2 x3 y1 y2 y3 z1 z2 z3=true):Ax.Pure Tryz.prog G 178 [fA o1 o2 o3 x1 x2 x3 y1 y2 y3 z1 z2 z3] (.tup [tF [] [] [] [] [] [] [] [] [] [] [] [],N 15]):=by
  have c_o:=b07 o1 o2 o3 x1 x2 x3 y1 y2 y3 z1 z2 z3 hk qx qy qz
  have c_l:=b14 hk o1 o2 o3 x1 x2 x3 y1 y2 y3 z1 z2 z3 qo qx qy qz
  have c_t:=b4m hk o1 o2 o3 x1 x2 x3 y1 y2 y3 z1 z2 z3 qo qx qy qz
  rw [decide_eq_false ho] at c_o
  rw [hb] at c_l
  have c_f:=(show Ax.Pure Tryz.prog G 143 [.one (.row 1 2 (fun i=> [[i7.v (.int .i64 15)],[i7.v (.int .i64 4)]].getD i []))] (N 15) from a4l 15 4)
  refine r8 Tryz.func178 rfl Tryz.ntmps178 ?_
  intro w0 E0 hc
  repeat' (first|refine n7 hc Tryz.results178 ?_|(with_reducible first|exact trivial|refine j3 ?_ ?_|refine m8 (fun h=>?_)|refine c9 c_o ?_ ?_|refine c9 c_l ?_ ?_|refine c9 c_t ?_ ?_|refine c9 (c_wt _) ?_ ?_|refine c9 (c_wf _) ?_ ?_|refine c9 (c98 _) ?_ ?_|refine c9 (c97 _) ?_ ?_|refine c9 c_f ?_ ?_|fail)|((first|omega|exact absurd rfl (by assumption)|(refine nf1 ?_;assumption)|(refine nf2 ?_;assumption));done))
theorem b3r {k:Nat} (hk:k≤1000000) (o1 o2 o3 x1 x2 x3 y1 y2 y3 z1 z2 z3:Rat) (qo:Q k o1∧Q k o2∧Q k o3) (qx:Q k x1∧Q k x2∧Q k x3) (qy:Q k y1∧Q k y2∧Q k y3) (qz:Q k z1∧Q k z2∧Q k z3) (h:gvF o1 o2 o3 x1 x2 x3 y1 y2 y3 z1 z2 z3≠0):Ax.Pure Tryz.prog G 178 [fA o1 o2 o3 x1 x2 x3 y1 y2 y3 z1 z2 z3] (.tup [tF [] [] [] [] [] [] [] [] [] [] [] [],N (gvF o1 o2 o3 x1 x2 x3 y1 y2 y3 z1 z2 z3)]):=by
  unfold gvF at h ⊢
  split
  · rename_i ho
    rw [if_pos ho] at h
    split
    · rename_i hb
      exact e1x hk _ _ _ _ _ _ _ _ _ _ _ _ qo qx qy qz ho hb
    · rename_i hb
      rw [if_neg hb] at h
      exact absurd rfl h
  · rename_i ho
    cases hb:b3j o1 o2 o3 x1 x2 x3 y1 y2 y3 z1 z2 z3
    · exact d9m hk _ _ _ _ _ _ _ _ _ _ _ _ qo qx qy qz ho hb
    · exact d62 hk _ _ _ _ _ _ _ _ _ _ _ _ qo qx qy qz ho hb
theorem a2w (a b c d a2 b2 c2 d2:V3) (e1:Int) (c_c:Ax.Pure Tryz.prog G 92 [txF a b c d] (N e1)) (e2:Int) (c_d:Ax.Pure Tryz.prog G 92 [txF a2 b2 c2 d2] (N e2)) (he:u5 [e1,e2]≠0):Ax.Pure Tryz.prog G 60 [txF a b c d,txF a2 b2 c2 d2] (.tup [tF [] [] [] [] [] [] [] [] [] [] [] [],N (u5 [e1,e2])]):=by
  have c_f:=c8f (a:=e1) (b:=e2) rfl
  generalize u5 [e1,e2]=e at *
  refine r8 Tryz.func60 rfl Tryz.ntmps60 ?_
  intro w0 E0 hc
  repeat' (first|refine n7 hc Tryz.results60 ?_|(with_reducible first|exact trivial|refine j3 ?_ ?_|refine m8 (fun h=>?_)|refine c9 c_c ?_ ?_|refine c9 c_d ?_ ?_|refine c9 c_f ?_ ?_|fail)|((first|omega|exact absurd (by assumption) he);done))
theorem a8e (a b c d:V3) (e1:Int) (c_c:Ax.Pure Tryz.prog G 92 [txF a b c d] (N e1)) (he:e1≠0):Ax.Pure Tryz.prog G 61 [txF a b c d] (.tup [tF [] [] [] [] [] [] [] [] [] [] [] [],N e1]):=by
  refine r8 Tryz.func61 rfl Tryz.ntmps61 ?_
  intro w0 E0 hc
  repeat' (first|refine n7 hc Tryz.results61 ?_|(with_reducible first|exact trivial|refine j3 ?_ ?_|refine m8 (fun h=>?_)|refine c9 c_c ?_ ?_|fail)|((first|omega|exact absurd (by assumption) he);done))
theorem c4o (o1 o2 o3 x1 x2 x3 y1 y2 y3 z1 z2 z3:Rat) (hF:okF o1 o2 o3 x1 x2 x3 y1 y2 y3 z1 z2 z3) (p1 p2 p3 a1 a2 a3 b1 b2 b3 c1 c2 c3:Rat) (hG:okF p1 p2 p3 a1 a2 a3 b1 b2 b3 c1 c2 c3) (hh:gvF (o1+(x1*p1+y1*p2+z1*p3)) (o2+(x2*p1+y2*p2+z2*p3)) (o3+(x3*p1+y3*p2+z3*p3)) (x1*a1+y1*a2+z1*a3) (x2*a1+y2*a2+z2*a3) (x3*a1+y3*a2+z3*a3) (x1*b1+y1*b2+z1*b3) (x2*b1+y2*b2+z2*b3) (x3*b1+y3*b2+z3*b3) (x1*c1+y1*c2+z1*c3) (x2*c1+y2*c2+z2*c3) (x3*c1+y3*c2+z3*c3)≠0):Ax.Pure Tryz.prog G 60 [tF (c5 o1) (c5 o2) (c5 o3) (c5 x1) (c5 x2) (c5 x3) (c5 y1) (c5 y2) (c5 y3) (c5 z1) (c5 z2) (c5 z3),tF (c5 p1) (c5 p2) (c5 p3) (c5 a1) (c5 a2) (c5 a3) (c5 b1) (c5 b2) (c5 b3) (c5 c1) (c5 c2) (c5 c3)] (.tup [tF [] [] [] [] [] [] [] [] [] [] [] [],N (gvF (o1+(x1*p1+y1*p2+z1*p3)) (o2+(x2*p1+y2*p2+z2*p3)) (o3+(x3*p1+y3*p2+z3*p3)) (x1*a1+y1*a2+z1*a3) (x2*a1+y2*a2+z2*a3) (x3*a1+y3*a2+z3*a3) (x1*b1+y1*b2+z1*b3) (x2*b1+y2*b2+z2*b3) (x3*b1+y3*b2+z3*b3) (x1*c1+y1*c2+z1*c3) (x2*c1+y2*c2+z2*c3) (x3*c1+y3*c2+z3*c3))]):=by
  obtain ⟨hx0,hy0,hz0,hor,hdt⟩:=a2t hF.2.2.2.2
  have c_c:=b1s hF
  have c_F:=a2m hF
  obtain ⟨⟨qo1,qo2,qo3⟩,⟨qx1,qx2,qx3⟩,⟨qy1,qy2,qy3⟩,⟨qz1,qz2,qz3⟩⟩:(Q 2400 o1∧Q 2400 o2∧Q 2400 o3)∧(Q 2400 x1∧Q 2400 x2∧Q 2400 x3)∧(Q 2400 y1∧Q 2400 y2∧Q 2400 y3)∧Q 2400 z1∧Q 2400 z2∧Q 2400 z3:=⟨s9 hF.1,s9 hF.2.1,s9 hF.2.2.1,s9 hF.2.2.2.1⟩
  have c_c2:=b1s hG
  have c_F2:=a2m hG
  obtain ⟨⟨qp1,qp2,qp3⟩,⟨qa1,qa2,qa3⟩,⟨qb1,qb2,qb3⟩,⟨qc1,qc2,qc3⟩⟩:(Q 2400 p1∧Q 2400 p2∧Q 2400 p3)∧(Q 2400 a1∧Q 2400 a2∧Q 2400 a3)∧(Q 2400 b1∧Q 2400 b2∧Q 2400 b3)∧Q 2400 c1∧Q 2400 c2∧Q 2400 c3:=⟨s9 hG.1,s9 hG.2.1,s9 hG.2.2.1,s9 hG.2.2.2.1⟩
  have c_pl:=c3b o1 o2 o3 x1 x2 x3 y1 y2 y3 z1 z2 z3 p1 p2 p3 ⟨c8 qo1 rfl,c8 qo2 rfl,c8 qo3 rfl,c8 qx1 rfl,c8 qx2 rfl,c8 qx3 rfl,c8 qy1 rfl,c8 qy2 rfl,c8 qy3 rfl,c8 qz1 rfl,c8 qz2 rfl,c8 qz3 rfl,c8 qp1 rfl,c8 qp2 rfl,c8 qp3 rfl⟩
  have c_ta:=b3n o1 o2 o3 x1 x2 x3 y1 y2 y3 z1 z2 z3 a1 a2 a3 ⟨c8 qo1 rfl,c8 qo2 rfl,c8 qo3 rfl,c8 qx1 rfl,c8 qx2 rfl,c8 qx3 rfl,c8 qy1 rfl,c8 qy2 rfl,c8 qy3 rfl,c8 qz1 rfl,c8 qz2 rfl,c8 qz3 rfl,c8 qa1 rfl,c8 qa2 rfl,c8 qa3 rfl⟩
  have c_tb:=b3n o1 o2 o3 x1 x2 x3 y1 y2 y3 z1 z2 z3 b1 b2 b3 ⟨c8 qo1 rfl,c8 qo2 rfl,c8 qo3 rfl,c8 qx1 rfl,c8 qx2 rfl,c8 qx3 rfl,c8 qy1 rfl,c8 qy2 rfl,c8 qy3 rfl,c8 qz1 rfl,c8 qz2 rfl,c8 qz3 rfl,c8 qb1 rfl,c8 qb2 rfl,c8 qb3 rfl⟩
  have c_tc:=b3n o1 o2 o3 x1 x2 x3 y1 y2 y3 z1 z2 z3 c1 c2 c3 ⟨c8 qo1 rfl,c8 qo2 rfl,c8 qo3 rfl,c8 qx1 rfl,c8 qx2 rfl,c8 qx3 rfl,c8 qy1 rfl,c8 qy2 rfl,c8 qy3 rfl,c8 qz1 rfl,c8 qz2 rfl,c8 qz3 rfl,c8 qc1 rfl,c8 qc2 rfl,c8 qc3 rfl⟩
  have c_g:=b3r (k:=1000000) (by decide) (o1+(x1*p1+y1*p2+z1*p3)) (o2+(x2*p1+y2*p2+z2*p3)) (o3+(x3*p1+y3*p2+z3*p3)) (x1*a1+y1*a2+z1*a3) (x2*a1+y2*a2+z2*a3) (x3*a1+y3*a2+z3*a3) (x1*b1+y1*b2+z1*b3) (x2*b1+y2*b2+z2*b3) (x3*b1+y3*b2+z3*b3) (x1*c1+y1*c2+z1*c3) (x2*c1+y2*c2+z2*c3) (x3*c1+y3*c2+z3*c3) ⟨j4 (f0 qo1 (f0 (f0 (c6 qx1 qp1) (c6 qy1 qp2)) (c6 qz1 qp3))) rfl,j4 (f0 qo2 (f0 (f0 (c6 qx2 qp1) (c6 qy2 qp2)) (c6 qz2 qp3))) rfl,j4 (f0 qo3 (f0 (f0 (c6 qx3 qp1) (c6 qy3 qp2)) (c6 qz3 qp3))) rfl⟩ ⟨j4 (f0 (f0 (c6 qx1 qa1) (c6 qy1 qa2)) (c6 qz1 qa3)) rfl,j4 (f0 (f0 (c6 qx2 qa1) (c6 qy2 qa2)) (c6 qz2 qa3)) rfl,j4 (f0 (f0 (c6 qx3 qa1) (c6 qy3 qa2)) (c6 qz3 qa3)) rfl⟩ ⟨j4 (f0 (f0 (c6 qx1 qb1) (c6 qy1 qb2)) (c6 qz1 qb3)) rfl,j4 (f0 (f0 (c6 qx2 qb1) (c6 qy2 qb2)) (c6 qz2 qb3)) rfl,j4 (f0 (f0 (c6 qx3 qb1) (c6 qy3 qb2)) (c6 qz3 qb3)) rfl⟩ ⟨j4 (f0 (f0 (c6 qx1 qc1) (c6 qy1 qc2)) (c6 qz1 qc3)) rfl,j4 (f0 (f0 (c6 qx2 qc1) (c6 qy2 qc2)) (c6 qz2 qc3)) rfl,j4 (f0 (f0 (c6 qx3 qc1) (c6 qy3 qc2)) (c6 qz3 qc3)) rfl⟩ hh
  refine r8 Tryz.func60 rfl Tryz.ntmps60 ?_
  intro w0 E0 hc
  repeat' (first|refine n7 hc Tryz.results60 ?_|(with_reducible first|exact trivial|refine j3 ?_ ?_|refine m8 (fun h=>?_)|refine c9 c_c ?_ ?_|refine c9 c_c2 ?_ ?_|refine c9 a5f ?_ ?_|refine c9 c_F ?_ ?_|refine c9 c_F2 ?_ ?_|refine c9 c_pl ?_ ?_|refine c9 c_ta ?_ ?_|refine c9 c_tb ?_ ?_|refine c9 c_tc ?_ ?_|refine c9 c_g ?_ ?_|fail)|((first|omega|exact absurd rfl (by assumption)|(refine nf1 ?_;assumption)|(refine nf2 ?_;assumption));done))
end Go.Proofs
end
section
set_option maxHeartbeats 4000000
set_option maxRecDepth 100000
namespace Go.Proofs
open Go.Ax
theorem d2y (o1 o2 o3 x1 x2 x3 y1 y2 y3 z1 z2 z3:Rat) (hF:okF o1 o2 o3 x1 x2 x3 y1 y2 y3 z1 z2 z3) (hh:gvF (c7 (((0:Int):Rat) - o1) (((0:Int):Rat) - o2) (((0:Int):Rat) - o3) x1 x2 x3 / c7 x1 x2 x3 x1 x2 x3) (c7 (((0:Int):Rat) - o1) (((0:Int):Rat) - o2) (((0:Int):Rat) - o3) y1 y2 y3 / c7 y1 y2 y3 y1 y2 y3) (c7 (((0:Int):Rat) - o1) (((0:Int):Rat) - o2) (((0:Int):Rat) - o3) z1 z2 z3 / c7 z1 z2 z3 z1 z2 z3) (c7 ((1:Int):Rat) ((0:Int):Rat) ((0:Int):Rat) x1 x2 x3 / c7 x1 x2 x3 x1 x2 x3) (c7 ((1:Int):Rat) ((0:Int):Rat) ((0:Int):Rat) y1 y2 y3 / c7 y1 y2 y3 y1 y2 y3) (c7 ((1:Int):Rat) ((0:Int):Rat) ((0:Int):Rat) z1 z2 z3 / c7 z1 z2 z3 z1 z2 z3) (c7 ((0:Int):Rat) ((1:Int):Rat) ((0:Int):Rat) x1 x2 x3 / c7 x1 x2 x3 x1 x2 x3) (c7 ((0:Int):Rat) ((1:Int):Rat) ((0:Int):Rat) y1 y2 y3 / c7 y1 y2 y3 y1 y2 y3) (c7 ((0:Int):Rat) ((1:Int):Rat) ((0:Int):Rat) z1 z2 z3 / c7 z1 z2 z3 z1 z2 z3) (c7 ((0:Int):Rat) ((0:Int):Rat) ((1:Int):Rat) x1 x2 x3 / c7 x1 x2 x3 x1 x2 x3) (c7 ((0:Int):Rat) ((0:Int):Rat) ((1:Int):Rat) y1 y2 y3 / c7 y1 y2 y3 y1 y2 y3) (c7 ((0:Int):Rat) ((0:Int):Rat) ((1:Int):Rat) z1 z2 z3 / c7 z1 z2 z3 z1 z2 z3)=0):Ax.Pure Tryz.prog G 61 [tF (c5 o1) (c5 o2) (c5 o3) (c5 x1) (c5 x2) (c5 x3) (c5 y1) (c5 y2) (c5 y3) (c5 z1) (c5 z2) (c5 z3)] (.tup [tF (c5 (c7 (((0:Int):Rat) - o1) (((0:Int):Rat) - o2) (((0:Int):Rat) - o3) x1 x2 x3 / c7 x1 x2 x3 x1 x2 x3)) (c5 (c7 (((0:Int):Rat) - o1) (((0:Int):Rat) - o2) (((0:Int):Rat) - o3) y1 y2 y3 / c7 y1 y2 y3 y1 y2 y3)) (c5 (c7 (((0:Int):Rat) - o1) (((0:Int):Rat) - o2) (((0:Int):Rat) - o3) z1 z2 z3 / c7 z1 z2 z3 z1 z2 z3)) (c5 (c7 ((1:Int):Rat) ((0:Int):Rat) ((0:Int):Rat) x1 x2 x3 / c7 x1 x2 x3 x1 x2 x3)) (c5 (c7 ((1:Int):Rat) ((0:Int):Rat) ((0:Int):Rat) y1 y2 y3 / c7 y1 y2 y3 y1 y2 y3)) (c5 (c7 ((1:Int):Rat) ((0:Int):Rat) ((0:Int):Rat) z1 z2 z3 / c7 z1 z2 z3 z1 z2 z3)) (c5 (c7 ((0:Int):Rat) ((1:Int):Rat) ((0:Int):Rat) x1 x2 x3 / c7 x1 x2 x3 x1 x2 x3)) (c5 (c7 ((0:Int):Rat) ((1:Int):Rat) ((0:Int):Rat) y1 y2 y3 / c7 y1 y2 y3 y1 y2 y3)) (c5 (c7 ((0:Int):Rat) ((1:Int):Rat) ((0:Int):Rat) z1 z2 z3 / c7 z1 z2 z3 z1 z2 z3)) (c5 (c7 ((0:Int):Rat) ((0:Int):Rat) ((1:Int):Rat) x1 x2 x3 / c7 x1 x2 x3 x1 x2 x3)) (c5 (c7 ((0:Int):Rat) ((0:Int):Rat) ((1:Int):Rat) y1 y2 y3 / c7 y1 y2 y3 y1 y2 y3)) (c5 (c7 ((0:Int):Rat) ((0:Int):Rat) ((1:Int):Rat) z1 z2 z3 / c7 z1 z2 z3 z1 z2 z3)),N 0]):=by
  obtain ⟨hx0,hy0,hz0,hor,hdt⟩:=a2t hF.2.2.2.2
  have c_c:=b1s hF
  have c_F:=a2m hF
  obtain ⟨⟨qo1,qo2,qo3⟩,⟨qx1,qx2,qx3⟩,⟨qy1,qy2,qy3⟩,⟨qz1,qz2,qz3⟩⟩:(Q 2400 o1∧Q 2400 o2∧Q 2400 o3)∧(Q 2400 x1∧Q 2400 x2∧Q 2400 x3)∧(Q 2400 y1∧Q 2400 y2∧Q 2400 y3)∧Q 2400 z1∧Q 2400 z2∧Q 2400 z3:=⟨s9 hF.1,s9 hF.2.1,s9 hF.2.2.1,s9 hF.2.2.2.1⟩
  have qi0:Q 1 (((0:Int):Rat)):=a9t
  have qi1:Q 1 (((1:Int):Rat)):=b7r
  have c_v0:=a5u 0 0 0 (by decide)
  have c_v1:=a5u 1 0 0 (by decide)
  have c_v2:=a5u 0 1 0 (by decide)
  have c_v3:=a5u 0 0 1 (by decide)
  have c_l0:=b03 o1 o2 o3 x1 x2 x3 y1 y2 y3 z1 z2 z3 ((0:Int):Rat) ((0:Int):Rat) ((0:Int):Rat) (y6 hx0) (y6 hy0) (y6 hz0) ⟨c8 qx1 rfl,c8 qx2 rfl,c8 qx3 rfl,c8 qy1 rfl,c8 qy2 rfl,c8 qy3 rfl,c8 qz1 rfl,c8 qz2 rfl,c8 qz3 rfl,c8 qi0 rfl,c8 qi0 rfl,c8 qi0 rfl,c8 qo1 rfl,c8 qo2 rfl,c8 qo3 rfl⟩
  have c_l1:=a61 o1 o2 o3 x1 x2 x3 y1 y2 y3 z1 z2 z3 ((1:Int):Rat) ((0:Int):Rat) ((0:Int):Rat) (y6 hx0) (y6 hy0) (y6 hz0) ⟨c8 qx1 rfl,c8 qx2 rfl,c8 qx3 rfl,c8 qy1 rfl,c8 qy2 rfl,c8 qy3 rfl,c8 qz1 rfl,c8 qz2 rfl,c8 qz3 rfl,c8 qi1 rfl,c8 qi0 rfl,c8 qi0 rfl⟩
  have c_l2:=a61 o1 o2 o3 x1 x2 x3 y1 y2 y3 z1 z2 z3 ((0:Int):Rat) ((1:Int):Rat) ((0:Int):Rat) (y6 hx0) (y6 hy0) (y6 hz0) ⟨c8 qx1 rfl,c8 qx2 rfl,c8 qx3 rfl,c8 qy1 rfl,c8 qy2 rfl,c8 qy3 rfl,c8 qz1 rfl,c8 qz2 rfl,c8 qz3 rfl,c8 qi0 rfl,c8 qi1 rfl,c8 qi0 rfl⟩
  have c_l3:=a61 o1 o2 o3 x1 x2 x3 y1 y2 y3 z1 z2 z3 ((0:Int):Rat) ((0:Int):Rat) ((1:Int):Rat) (y6 hx0) (y6 hy0) (y6 hz0) ⟨c8 qx1 rfl,c8 qx2 rfl,c8 qx3 rfl,c8 qy1 rfl,c8 qy2 rfl,c8 qy3 rfl,c8 qz1 rfl,c8 qz2 rfl,c8 qz3 rfl,c8 qi0 rfl,c8 qi0 rfl,c8 qi1 rfl⟩
  have c_g:=c3l (k:=1000000) (by decide) (c7 (((0:Int):Rat) - o1) (((0:Int):Rat) - o2) (((0:Int):Rat) - o3) x1 x2 x3 / c7 x1 x2 x3 x1 x2 x3) (c7 (((0:Int):Rat) - o1) (((0:Int):Rat) - o2) (((0:Int):Rat) - o3) y1 y2 y3 / c7 y1 y2 y3 y1 y2 y3) (c7 (((0:Int):Rat) - o1) (((0:Int):Rat) - o2) (((0:Int):Rat) - o3) z1 z2 z3 / c7 z1 z2 z3 z1 z2 z3) (c7 ((1:Int):Rat) ((0:Int):Rat) ((0:Int):Rat) x1 x2 x3 / c7 x1 x2 x3 x1 x2 x3) (c7 ((1:Int):Rat) ((0:Int):Rat) ((0:Int):Rat) y1 y2 y3 / c7 y1 y2 y3 y1 y2 y3) (c7 ((1:Int):Rat) ((0:Int):Rat) ((0:Int):Rat) z1 z2 z3 / c7 z1 z2 z3 z1 z2 z3) (c7 ((0:Int):Rat) ((1:Int):Rat) ((0:Int):Rat) x1 x2 x3 / c7 x1 x2 x3 x1 x2 x3) (c7 ((0:Int):Rat) ((1:Int):Rat) ((0:Int):Rat) y1 y2 y3 / c7 y1 y2 y3 y1 y2 y3) (c7 ((0:Int):Rat) ((1:Int):Rat) ((0:Int):Rat) z1 z2 z3 / c7 z1 z2 z3 z1 z2 z3) (c7 ((0:Int):Rat) ((0:Int):Rat) ((1:Int):Rat) x1 x2 x3 / c7 x1 x2 x3 x1 x2 x3) (c7 ((0:Int):Rat) ((0:Int):Rat) ((1:Int):Rat) y1 y2 y3 / c7 y1 y2 y3 y1 y2 y3) (c7 ((0:Int):Rat) ((0:Int):Rat) ((1:Int):Rat) z1 z2 z3 / c7 z1 z2 z3 z1 z2 z3) ⟨j4 (a0b (f0 (f0 (c6 (j9 qi0 qo1) qx1) (c6 (j9 qi0 qo2) qx2)) (c6 (j9 qi0 qo3) qx3)) (f0 (f0 (c6 qx1 qx1) (c6 qx2 qx2)) (c6 qx3 qx3))) rfl,j4 (a0b (f0 (f0 (c6 (j9 qi0 qo1) qy1) (c6 (j9 qi0 qo2) qy2)) (c6 (j9 qi0 qo3) qy3)) (f0 (f0 (c6 qy1 qy1) (c6 qy2 qy2)) (c6 qy3 qy3))) rfl,j4 (a0b (f0 (f0 (c6 (j9 qi0 qo1) qz1) (c6 (j9 qi0 qo2) qz2)) (c6 (j9 qi0 qo3) qz3)) (f0 (f0 (c6 qz1 qz1) (c6 qz2 qz2)) (c6 qz3 qz3))) rfl⟩ ⟨j4 (a0b (f0 (f0 (c6 qi1 qx1) (c6 qi0 qx2)) (c6 qi0 qx3)) (f0 (f0 (c6 qx1 qx1) (c6 qx2 qx2)) (c6 qx3 qx3))) rfl,j4 (a0b (f0 (f0 (c6 qi1 qy1) (c6 qi0 qy2)) (c6 qi0 qy3)) (f0 (f0 (c6 qy1 qy1) (c6 qy2 qy2)) (c6 qy3 qy3))) rfl,j4 (a0b (f0 (f0 (c6 qi1 qz1) (c6 qi0 qz2)) (c6 qi0 qz3)) (f0 (f0 (c6 qz1 qz1) (c6 qz2 qz2)) (c6 qz3 qz3))) rfl⟩ ⟨j4 (a0b (f0 (f0 (c6 qi0 qx1) (c6 qi1 qx2)) (c6 qi0 qx3)) (f0 (f0 (c6 qx1 qx1) (c6 qx2 qx2)) (c6 qx3 qx3))) rfl,j4 (a0b (f0 (f0 (c6 qi0 qy1) (c6 qi1 qy2)) (c6 qi0 qy3)) (f0 (f0 (c6 qy1 qy1) (c6 qy2 qy2)) (c6 qy3 qy3))) rfl,j4 (a0b (f0 (f0 (c6 qi0 qz1) (c6 qi1 qz2)) (c6 qi0 qz3)) (f0 (f0 (c6 qz1 qz1) (c6 qz2 qz2)) (c6 qz3 qz3))) rfl⟩ ⟨j4 (a0b (f0 (f0 (c6 qi0 qx1) (c6 qi0 qx2)) (c6 qi1 qx3)) (f0 (f0 (c6 qx1 qx1) (c6 qx2 qx2)) (c6 qx3 qx3))) rfl,j4 (a0b (f0 (f0 (c6 qi0 qy1) (c6 qi0 qy2)) (c6 qi1 qy3)) (f0 (f0 (c6 qy1 qy1) (c6 qy2 qy2)) (c6 qy3 qy3))) rfl,j4 (a0b (f0 (f0 (c6 qi0 qz1) (c6 qi0 qz2)) (c6 qi1 qz3)) (f0 (f0 (c6 qz1 qz1) (c6 qz2 qz2)) (c6 qz3 qz3))) rfl⟩ hh
  refine r8 Tryz.func61 rfl Tryz.ntmps61 ?_
  intro w0 E0 hc
  repeat' (first|refine n7 hc Tryz.results61 ?_|(with_reducible first|exact trivial|refine j3 ?_ ?_|refine m8 (fun h=>?_)|refine c9 c_c ?_ ?_|refine c9 c_F ?_ ?_|refine c9 c_v0 ?_ ?_|refine c9 c_v1 ?_ ?_|refine c9 c_v2 ?_ ?_|refine c9 c_v3 ?_ ?_|refine c9 c_l0 ?_ ?_|refine c9 c_l1 ?_ ?_|refine c9 c_l2 ?_ ?_|refine c9 c_l3 ?_ ?_|refine c9 c_g ?_ ?_|fail)|((first|omega|exact absurd rfl (by assumption)|(refine nf1 ?_;assumption)|(refine nf2 ?_;assumption));done))
theorem c4q (o1 o2 o3 x1 x2 x3 y1 y2 y3 z1 z2 z3:Rat) (hF:okF o1 o2 o3 x1 x2 x3 y1 y2 y3 z1 z2 z3) (hh:gvF (c7 (((0:Int):Rat) - o1) (((0:Int):Rat) - o2) (((0:Int):Rat) - o3) x1 x2 x3 / c7 x1 x2 x3 x1 x2 x3) (c7 (((0:Int):Rat) - o1) (((0:Int):Rat) - o2) (((0:Int):Rat) - o3) y1 y2 y3 / c7 y1 y2 y3 y1 y2 y3) (c7 (((0:Int):Rat) - o1) (((0:Int):Rat) - o2) (((0:Int):Rat) - o3) z1 z2 z3 / c7 z1 z2 z3 z1 z2 z3) (c7 ((1:Int):Rat) ((0:Int):Rat) ((0:Int):Rat) x1 x2 x3 / c7 x1 x2 x3 x1 x2 x3) (c7 ((1:Int):Rat) ((0:Int):Rat) ((0:Int):Rat) y1 y2 y3 / c7 y1 y2 y3 y1 y2 y3) (c7 ((1:Int):Rat) ((0:Int):Rat) ((0:Int):Rat) z1 z2 z3 / c7 z1 z2 z3 z1 z2 z3) (c7 ((0:Int):Rat) ((1:Int):Rat) ((0:Int):Rat) x1 x2 x3 / c7 x1 x2 x3 x1 x2 x3) (c7 ((0:Int):Rat) ((1:Int):Rat) ((0:Int):Rat) y1 y2 y3 / c7 y1 y2 y3 y1 y2 y3) (c7 ((0:Int):Rat) ((1:Int):Rat) ((0:Int):Rat) z1 z2 z3 / c7 z1 z2 z3 z1 z2 z3) (c7 ((0:Int):Rat) ((0:Int):Rat) ((1:Int):Rat) x1 x2 x3 / c7 x1 x2 x3 x1 x2 x3) (c7 ((0:Int):Rat) ((0:Int):Rat) ((1:Int):Rat) y1 y2 y3 / c7 y1 y2 y3 y1 y2 y3) (c7 ((0:Int):Rat) ((0:Int):Rat) ((1:Int):Rat) z1 z2 z3 / c7 z1 z2 z3 z1 z2 z3)≠0):Ax.Pure Tryz.prog G 61 [tF (c5 o1) (c5 o2) (c5 o3) (c5 x1) (c5 x2) (c5 x3) (c5 y1) (c5 y2) (c5 y3) (c5 z1) (c5 z2) (c5 z3)] (.tup [tF [] [] [] [] [] [] [] [] [] [] [] [],N (gvF (c7 (((0:Int):Rat) - o1) (((0:Int):Rat) - o2) (((0:Int):Rat) - o3) x1 x2 x3 / c7 x1 x2 x3 x1 x2 x3) (c7 (((0:Int):Rat) - o1) (((0:Int):Rat) - o2) (((0:Int):Rat) - o3) y1 y2 y3 / c7 y1 y2 y3 y1 y2 y3) (c7 (((0:Int):Rat) - o1) (((0:Int):Rat) - o2) (((0:Int):Rat) - o3) z1 z2 z3 / c7 z1 z2 z3 z1 z2 z3) (c7 ((1:Int):Rat) ((0:Int):Rat) ((0:Int):Rat) x1 x2 x3 / c7 x1 x2 x3 x1 x2 x3) (c7 ((1:Int):Rat) ((0:Int):Rat) ((0:Int):Rat) y1 y2 y3 / c7 y1 y2 y3 y1 y2 y3) (c7 ((1:Int):Rat) ((0:Int):Rat) ((0:Int):Rat) z1 z2 z3 / c7 z1 z2 z3 z1 z2 z3) (c7 ((0:Int):Rat) ((1:Int):Rat) ((0:Int):Rat) x1 x2 x3 / c7 x1 x2 x3 x1 x2 x3) (c7 ((0:Int):Rat) ((1:Int):Rat) ((0:Int):Rat) y1 y2 y3 / c7 y1 y2 y3 y1 y2 y3) (c7 ((0:Int):Rat) ((1:Int):Rat) ((0:Int):Rat) z1 z2 z3 / c7 z1 z2 z3 z1 z2 z3) (c7 ((0:Int):Rat) ((0:Int):Rat) ((1:Int):Rat) x1 x2 x3 / c7 x1 x2 x3 x1 x2 x3) (c7 ((0:Int):Rat) ((0:Int):Rat) ((1:Int):Rat) y1 y2 y3 / c7 y1 y2 y3 y1 y2 y3) (c7 ((0:Int):Rat) ((0:Int):Rat) ((1:Int):Rat) z1 z2 z3 / c7 z1 z2 z3 z1 z2 z3))]):=by
  obtain ⟨hx0,hy0,hz0,hor,hdt⟩:=a2t hF.2.2.2.2
  have c_c:=b1s hF
  have c_F:=a2m hF
  obtain ⟨⟨qo1,qo2,qo3⟩,⟨qx1,qx2,qx3⟩,⟨qy1,qy2,qy3⟩,⟨qz1,qz2,qz3⟩⟩:(Q 2400 o1∧Q 2400 o2∧Q 2400 o3)∧(Q 2400 x1∧Q 2400 x2∧Q 2400 x3)∧(Q 2400 y1∧Q 2400 y2∧Q 2400 y3)∧Q 2400 z1∧Q 2400 z2∧Q 2400 z3:=⟨s9 hF.1,s9 hF.2.1,s9 hF.2.2.1,s9 hF.2.2.2.1⟩
  have qi0:Q 1 (((0:Int):Rat)):=a9t
  have qi1:Q 1 (((1:Int):Rat)):=b7r
  have c_v0:=a5u 0 0 0 (by decide)
  have c_v1:=a5u 1 0 0 (by decide)
  have c_v2:=a5u 0 1 0 (by decide)
  have c_v3:=a5u 0 0 1 (by decide)
  have c_l0:=b03 o1 o2 o3 x1 x2 x3 y1 y2 y3 z1 z2 z3 ((0:Int):Rat) ((0:Int):Rat) ((0:Int):Rat) (y6 hx0) (y6 hy0) (y6 hz0) ⟨c8 qx1 rfl,c8 qx2 rfl,c8 qx3 rfl,c8 qy1 rfl,c8 qy2 rfl,c8 qy3 rfl,c8 qz1 rfl,c8 qz2 rfl,c8 qz3 rfl,c8 qi0 rfl,c8 qi0 rfl,c8 qi0 rfl,c8 qo1 rfl,c8 qo2 rfl,c8 qo3 rfl⟩
  have c_l1:=a61 o1 o2 o3 x1 x2 x3 y1 y2 y3 z1 z2 z3 ((1:Int):Rat) ((0:Int):Rat) ((0:Int):Rat) (y6 hx0) (y6 hy0) (y6 hz0) ⟨c8 qx1 rfl,c8 qx2 rfl,c8 qx3 rfl,c8 qy1 rfl,c8 qy2 rfl,c8 qy3 rfl,c8 qz1 rfl,c8 qz2 rfl,c8 qz3 rfl,c8 qi1 rfl,c8 qi0 rfl,c8 qi0 rfl⟩
  have c_l2:=a61 o1 o2 o3 x1 x2 x3 y1 y2 y3 z1 z2 z3 ((0:Int):Rat) ((1:Int):Rat) ((0:Int):Rat) (y6 hx0) (y6 hy0) (y6 hz0) ⟨c8 qx1 rfl,c8 qx2 rfl,c8 qx3 rfl,c8 qy1 rfl,c8 qy2 rfl,c8 qy3 rfl,c8 qz1 rfl,c8 qz2 rfl,c8 qz3 rfl,c8 qi0 rfl,c8 qi1 rfl,c8 qi0 rfl⟩
  have c_l3:=a61 o1 o2 o3 x1 x2 x3 y1 y2 y3 z1 z2 z3 ((0:Int):Rat) ((0:Int):Rat) ((1:Int):Rat) (y6 hx0) (y6 hy0) (y6 hz0) ⟨c8 qx1 rfl,c8 qx2 rfl,c8 qx3 rfl,c8 qy1 rfl,c8 qy2 rfl,c8 qy3 rfl,c8 qz1 rfl,c8 qz2 rfl,c8 qz3 rfl,c8 qi0 rfl,c8 qi0 rfl,c8 qi1 rfl⟩
  have c_g:=b3r (k:=1000000) (by decide) (c7 (((0:Int):Rat) - o1) (((0:Int):Rat) - o2) (((0:Int):Rat) - o3) x1 x2 x3 / c7 x1 x2 x3 x1 x2 x3) (c7 (((0:Int):Rat) - o1) (((0:Int):Rat) - o2) (((0:Int):Rat) - o3) y1 y2 y3 / c7 y1 y2 y3 y1 y2 y3) (c7 (((0:Int):Rat) - o1) (((0:Int):Rat) - o2) (((0:Int):Rat) - o3) z1 z2 z3 / c7 z1 z2 z3 z1 z2 z3) (c7 ((1:Int):Rat) ((0:Int):Rat) ((0:Int):Rat) x1 x2 x3 / c7 x1 x2 x3 x1 x2 x3) (c7 ((1:Int):Rat) ((0:Int):Rat) ((0:Int):Rat) y1 y2 y3 / c7 y1 y2 y3 y1 y2 y3) (c7 ((1:Int):Rat) ((0:Int):Rat) ((0:Int):Rat) z1 z2 z3 / c7 z1 z2 z3 z1 z2 z3) (c7 ((0:Int):Rat) ((1:Int):Rat) ((0:Int):Rat) x1 x2 x3 / c7 x1 x2 x3 x1 x2 x3) (c7 ((0:Int):Rat) ((1:Int):Rat) ((0:Int):Rat) y1 y2 y3 / c7 y1 y2 y3 y1 y2 y3) (c7 ((0:Int):Rat) ((1:Int):Rat) ((0:Int):Rat) z1 z2 z3 / c7 z1 z2 z3 z1 z2 z3) (c7 ((0:Int):Rat) ((0:Int):Rat) ((1:Int):Rat) x1 x2 x3 / c7 x1 x2 x3 x1 x2 x3) (c7 ((0:Int):Rat) ((0:Int):Rat) ((1:Int):Rat) y1 y2 y3 / c7 y1 y2 y3 y1 y2 y3) (c7 ((0:Int):Rat) ((0:Int):Rat) ((1:Int):Rat) z1 z2 z3 / c7 z1 z2 z3 z1 z2 z3) ⟨j4 (a0b (f0 (f0 (c6 (j9 qi0 qo1) qx1) (c6 (j9 qi0 qo2) qx2)) (c6 (j9 qi0 qo3) qx3)) (f0 (f0 (c6 qx1 qx1) (c6 qx2 qx2)) (c6 qx3 qx3))) rfl,j4 (a0b (f0 (f0 (c6 (j9 qi0 qo1) qy1) (c6 (j9 qi0 qo2) qy2)) (c6 (j9 qi0 qo3) qy3)) (f0 (f0 (c6 qy1 qy1) (c6 qy2 qy2)) (c6 qy3 qy3))) rfl,j4 (a0b (f0 (f0 (c6 (j9 qi0 qo1) qz1) (c6 (j9 qi0 qo2) qz2)) (c6 (j9 qi0 qo3) qz3)) (f0 (f0 (c6 qz1 qz1) (c6 qz2 qz2)) (c6 qz3 qz3))) rfl⟩ ⟨j4 (a0b (f0 (f0 (c6 qi1 qx1) (c6 qi0 qx2)) (c6 qi0 qx3)) (f0 (f0 (c6 qx1 qx1) (c6 qx2 qx2)) (c6 qx3 qx3))) rfl,j4 (a0b (f0 (f0 (c6 qi1 qy1) (c6 qi0 qy2)) (c6 qi0 qy3)) (f0 (f0 (c6 qy1 qy1) (c6 qy2 qy2)) (c6 qy3 qy3))) rfl,j4 (a0b (f0 (f0 (c6 qi1 qz1) (c6 qi0 qz2)) (c6 qi0 qz3)) (f0 (f0 (c6 qz1 qz1) (c6 qz2 qz2)) (c6 qz3 qz3))) rfl⟩ ⟨j4 (a0b (f0 (f0 (c6 qi0 qx1) (c6 qi1 qx2)) (c6 qi0 qx3)) (f0 (f0 (c6 qx1 qx1) (c6 qx2 qx2)) (c6 qx3 qx3))) rfl,j4 (a0b (f0 (f0 (c6 qi0 qy1) (c6 qi1 qy2)) (c6 qi0 qy3)) (f0 (f0 (c6 qy1 qy1) (c6 qy2 qy2)) (c6 qy3 qy3))) rfl,j4 (a0b (f0 (f0 (c6 qi0 qz1) (c6 qi1 qz2)) (c6 qi0 qz3)) (f0 (f0 (c6 qz1 qz1) (c6 qz2 qz2)) (c6 qz3 qz3))) rfl⟩ ⟨j4 (a0b (f0 (f0 (c6 qi0 qx1) (c6 qi0 qx2)) (c6 qi1 qx3)) (f0 (f0 (c6 qx1 qx1) (c6 qx2 qx2)) (c6 qx3 qx3))) rfl,j4 (a0b (f0 (f0 (c6 qi0 qy1) (c6 qi0 qy2)) (c6 qi1 qy3)) (f0 (f0 (c6 qy1 qy1) (c6 qy2 qy2)) (c6 qy3 qy3))) rfl,j4 (a0b (f0 (f0 (c6 qi0 qz1) (c6 qi0 qz2)) (c6 qi1 qz3)) (f0 (f0 (c6 qz1 qz1) (c6 qz2 qz2)) (c6 qz3 qz3))) rfl⟩ hh
  refine r8 Tryz.func61 rfl Tryz.ntmps61 ?_
  intro w0 E0 hc
  repeat' (first|refine n7 hc Tryz.results61 ?_|(with_reducible first|exact trivial|refine j3 ?_ ?_|refine m8 (fun h=>?_)|refine c9 c_c ?_ ?_|refine c9 c_F ?_ ?_|refine c9 c_v0 ?_ ?_|refine c9 c_v1 ?_ ?_|refine c9 c_v2 ?_ ?_|refine c9 c_v3 ?_ ?_|refine c9 c_l0 ?_ ?_|refine c9 c_l1 ?_ ?_|refine c9 c_l2 ?_ ?_|refine c9 c_l3 ?_ ?_|refine c9 c_g ?_ ?_|fail)|((first|omega|exact absurd rfl (by assumption)|(refine nf1 ?_;assumption)|(refine nf2 ?_;assumption));done))
end Go.Proofs
end
section
set_option maxHeartbeats 4000000
set_option maxRecDepth 100000
namespace Go.Proofs
open Go.Ax
theorem c9c (a b c d:List UInt8) (ha:a.length≤900000) (hb:b.length≤900000) (hc':c.length≤900000) (hd:d.length≤900000) (he:a1e [a,b,c,d]≠0):Ax.Pure Tryz.prog G 62 [.agg [.v (.string (bs a)),.v (.string (bs b)),.v (.string (bs c)),.v (.string (bs d))]] (.tup [tF [] [] [] [] [] [] [] [] [] [] [] [],N (a1e [a,b,c,d])]):=by
  have c_c:=a7n a b c d ha hb hc' hd
  generalize a1e [a,b,c,d]=e at *
  refine r8 Tryz.func62 rfl Tryz.ntmps62 ?_
  intro w0 E0 hc
  repeat' (first|(with_reducible first|refine j0 ?_|refine zwk ?_|refine i6 ?_|refine zgo ?_|refine zbn ?_|refine zge Tryz.results62 ?_|refine Sub.refl _|refine f9|refine w6 (out':=?_) ?_|refine u9 (y:=?_) ?_|refine w5 (eo':=?_) ?_)|(with_reducible refine zrs [1] hc ?_ ?_;focus (with_unfolding_all rfl))|(with_reducible refine zrm [1] hc mixed ?_ ?_;focus (with_unfolding_all rfl))|(with_reducible refine f6 ?_ ?_;focus (first|decide|omega))|(with_reducible first|refine zg2 ?_ ?_|refine zbo ?_|refine zg3 ?_ (fun h=>?_) (fun h=>?_)|refine zg4 (fun h=>?_) (fun h=>?_)|fail)|(omega;done))
  refine a05 hc 0 (sz:=4) (ro:=false) (g:=fun _=> [.v (.string (bs a)),.v (.string (bs b)),.v (.string (bs c)),.v (.string (bs d))]) (Is.refl _) ⟨trivial,trivial,trivial,trivial,trivial⟩ rfl ?_
  refine m7 (st':=n5 [(1,.one (.pp [.v (.string (bs a)),.v (.string (bs b)),.v (.string (bs c)),.v (.string (bs d))])),(2,.one (.ptr 1 12 0 0)),(3,N 0)] [(1,⟨12,1,fun _=> [.v (.string ⟨#[]⟩),.v (.string ⟨#[]⟩),.v (.string ⟨#[]⟩),.v (.string ⟨#[]⟩),.v (.string ⟨#[]⟩),.v (.string ⟨#[]⟩),.v (.string ⟨#[]⟩),.v (.string ⟨#[]⟩),.v (.string ⟨#[]⟩),.v (.string ⟨#[]⟩),.v (.string ⟨#[]⟩),.v (.string ⟨#[]⟩)],false⟩)] 2) ?_ ?_
  · refine zW1 ?_ <;> repeat' (with_reducible first|exact trivial|refine j3 ?_ ?_|refine t7 (fun i hi=>?_))
  repeat' (first|refine n7 hc Tryz.results62 ?_|(with_reducible first|exact trivial|refine j3 ?_ ?_|refine m8 (fun h=>?_)|refine c9 c_c ?_ ?_|fail)|((first|omega|exact absurd (by assumption) he);done))
theorem d9l:Ax.Pure Tryz.prog G 62 [.agg [.v (.string (bs (c5 0))),.v (.string (bs (c5 0))),.v (.string (bs (c5 0))),.v (.string (bs (c5 0)))]] (.tup [tF [] [] [] [] [] [] [] [] [] [] [] [],N 6]):=by
  have hw:y4 0=false:=b2e
  have hu:okV 0 0 0:=⟨b2e,b2e,b2e⟩
  have c_c:=a7n (c5 0) (c5 0) (c5 0) (c5 0) (a0g hw) (a0g hu.1) (a0g hu.2.1) (a0g hu.2.2)
  rw [fst4 hw hu.1 hu.2.1 hu.2.2] at c_c
  have c_w:=c4p hw
  have c_u:=a34 hu
  have c_z:=a60 0 0 0
  have c_s:=a7m 0
  rw [decide_eq_true ⟨rfl,rfl,rfl⟩] at c_z
  refine r8 Tryz.func62 rfl Tryz.ntmps62 ?_
  intro w0 E0 hc
  repeat' (first|(with_reducible first|refine j0 ?_|refine zwk ?_|refine i6 ?_|refine zgo ?_|refine zbn ?_|refine zge Tryz.results62 ?_|refine Sub.refl _|refine f9|refine w6 (out':=?_) ?_|refine u9 (y:=?_) ?_|refine w5 (eo':=?_) ?_)|(with_reducible refine zrs [1] hc ?_ ?_;focus (with_unfolding_all rfl))|(with_reducible refine zrm [1] hc mixed ?_ ?_;focus (with_unfolding_all rfl))|(with_reducible refine f6 ?_ ?_;focus (first|decide|omega))|(with_reducible first|refine zg2 ?_ ?_|refine zbo ?_|refine zg3 ?_ (fun h=>?_) (fun h=>?_)|refine zg4 (fun h=>?_) (fun h=>?_)|fail)|(omega;done))
  refine a05 hc 0 (sz:=4) (ro:=false) (g:=fun _=> [.v (.string (bs (c5 0))),.v (.string (bs (c5 0))),.v (.string (bs (c5 0))),.v (.string (bs (c5 0)))]) (Is.refl _) ⟨trivial,trivial,trivial,trivial,trivial⟩ rfl ?_
  refine m7 (st':=n5 [(1,.one (.pp [.v (.string (bs (c5 0))),.v (.string (bs (c5 0))),.v (.string (bs (c5 0))),.v (.string (bs (c5 0)))])),(2,.one (.ptr 1 12 0 0)),(3,N 0)] [(1,⟨12,1,fun _=> [.v (.string ⟨#[]⟩),.v (.string ⟨#[]⟩),.v (.string ⟨#[]⟩),.v (.string ⟨#[]⟩),.v (.string ⟨#[]⟩),.v (.string ⟨#[]⟩),.v (.string ⟨#[]⟩),.v (.string ⟨#[]⟩),.v (.string ⟨#[]⟩),.v (.string ⟨#[]⟩),.v (.string ⟨#[]⟩),.v (.string ⟨#[]⟩)],false⟩)] 2) ?_ ?_
  · refine zW1 ?_ <;> repeat' (with_reducible first|exact trivial|refine j3 ?_ ?_|refine t7 (fun i hi=>?_))
  repeat' (first|refine n7 hc Tryz.results62 ?_|(with_reducible first|exact trivial|refine j3 ?_ ?_|refine m8 (fun h=>?_)|refine c9 c_c ?_ ?_|refine c9 c_w ?_ ?_|refine c9 c_u ?_ ?_|refine c9 c_s ?_ ?_|refine c9 c_z ?_ ?_|fail)|((first|omega|exact absurd rfl (by assumption));done))
theorem d3a (w u1 u2 u3:Rat) (hw:y4 w=false) (hu:okV u1 u2 u3) (hq:¬(w=0∧u1=0∧u2=0∧u3=0)) (hh:gvF (((0:Int):Rat)) (((0:Int):Rat)) (((0:Int):Rat)) ((((1:Int):Rat)*((w*w) - (c7 u1 u2 u3 u1 u2 u3))+(u2*((0:Int):Rat) - u3*((0:Int):Rat))*(((2:Int):Rat)*w)+u1*(((2:Int):Rat)*c7 u1 u2 u3 ((1:Int):Rat) ((0:Int):Rat) ((0:Int):Rat)))*((w*w)+(c7 u1 u2 u3 u1 u2 u3))⁻¹) ((((0:Int):Rat)*((w*w) - (c7 u1 u2 u3 u1 u2 u3))+(u3*((1:Int):Rat) - u1*((0:Int):Rat))*(((2:Int):Rat)*w)+u2*(((2:Int):Rat)*c7 u1 u2 u3 ((1:Int):Rat) ((0:Int):Rat) ((0:Int):Rat)))*((w*w)+(c7 u1 u2 u3 u1 u2 u3))⁻¹) ((((0:Int):Rat)*((w*w) - (c7 u1 u2 u3 u1 u2 u3))+(u1*((0:Int):Rat) - u2*((1:Int):Rat))*(((2:Int):Rat)*w)+u3*(((2:Int):Rat)*c7 u1 u2 u3 ((1:Int):Rat) ((0:Int):Rat) ((0:Int):Rat)))*((w*w)+(c7 u1 u2 u3 u1 u2 u3))⁻¹) ((((0:Int):Rat)*((w*w) - (c7 u1 u2 u3 u1 u2 u3))+(u2*((0:Int):Rat) - u3*((1:Int):Rat))*(((2:Int):Rat)*w)+u1*(((2:Int):Rat)*c7 u1 u2 u3 ((0:Int):Rat) ((1:Int):Rat) ((0:Int):Rat)))*((w*w)+(c7 u1 u2 u3 u1 u2 u3))⁻¹) ((((1:Int):Rat)*((w*w) - (c7 u1 u2 u3 u1 u2 u3))+(u3*((0:Int):Rat) - u1*((0:Int):Rat))*(((2:Int):Rat)*w)+u2*(((2:Int):Rat)*c7 u1 u2 u3 ((0:Int):Rat) ((1:Int):Rat) ((0:Int):Rat)))*((w*w)+(c7 u1 u2 u3 u1 u2 u3))⁻¹) ((((0:Int):Rat)*((w*w) - (c7 u1 u2 u3 u1 u2 u3))+(u1*((1:Int):Rat) - u2*((0:Int):Rat))*(((2:Int):Rat)*w)+u3*(((2:Int):Rat)*c7 u1 u2 u3 ((0:Int):Rat) ((1:Int):Rat) ((0:Int):Rat)))*((w*w)+(c7 u1 u2 u3 u1 u2 u3))⁻¹) ((((0:Int):Rat)*((w*w) - (c7 u1 u2 u3 u1 u2 u3))+(u2*((1:Int):Rat) - u3*((0:Int):Rat))*(((2:Int):Rat)*w)+u1*(((2:Int):Rat)*c7 u1 u2 u3 ((0:Int):Rat) ((0:Int):Rat) ((1:Int):Rat)))*((w*w)+(c7 u1 u2 u3 u1 u2 u3))⁻¹) ((((0:Int):Rat)*((w*w) - (c7 u1 u2 u3 u1 u2 u3))+(u3*((0:Int):Rat) - u1*((1:Int):Rat))*(((2:Int):Rat)*w)+u2*(((2:Int):Rat)*c7 u1 u2 u3 ((0:Int):Rat) ((0:Int):Rat) ((1:Int):Rat)))*((w*w)+(c7 u1 u2 u3 u1 u2 u3))⁻¹) ((((1:Int):Rat)*((w*w) - (c7 u1 u2 u3 u1 u2 u3))+(u1*((0:Int):Rat) - u2*((0:Int):Rat))*(((2:Int):Rat)*w)+u3*(((2:Int):Rat)*c7 u1 u2 u3 ((0:Int):Rat) ((0:Int):Rat) ((1:Int):Rat)))*((w*w)+(c7 u1 u2 u3 u1 u2 u3))⁻¹)≠0):Ax.Pure Tryz.prog G 62 [.agg [.v (.string (bs (c5 w))),.v (.string (bs (c5 u1))),.v (.string (bs (c5 u2))),.v (.string (bs (c5 u3)))]] (.tup [tF [] [] [] [] [] [] [] [] [] [] [] [],N (gvF (((0:Int):Rat)) (((0:Int):Rat)) (((0:Int):Rat)) ((((1:Int):Rat)*((w*w) - (c7 u1 u2 u3 u1 u2 u3))+(u2*((0:Int):Rat) - u3*((0:Int):Rat))*(((2:Int):Rat)*w)+u1*(((2:Int):Rat)*c7 u1 u2 u3 ((1:Int):Rat) ((0:Int):Rat) ((0:Int):Rat)))*((w*w)+(c7 u1 u2 u3 u1 u2 u3))⁻¹) ((((0:Int):Rat)*((w*w) - (c7 u1 u2 u3 u1 u2 u3))+(u3*((1:Int):Rat) - u1*((0:Int):Rat))*(((2:Int):Rat)*w)+u2*(((2:Int):Rat)*c7 u1 u2 u3 ((1:Int):Rat) ((0:Int):Rat) ((0:Int):Rat)))*((w*w)+(c7 u1 u2 u3 u1 u2 u3))⁻¹) ((((0:Int):Rat)*((w*w) - (c7 u1 u2 u3 u1 u2 u3))+(u1*((0:Int):Rat) - u2*((1:Int):Rat))*(((2:Int):Rat)*w)+u3*(((2:Int):Rat)*c7 u1 u2 u3 ((1:Int):Rat) ((0:Int):Rat) ((0:Int):Rat)))*((w*w)+(c7 u1 u2 u3 u1 u2 u3))⁻¹) ((((0:Int):Rat)*((w*w) - (c7 u1 u2 u3 u1 u2 u3))+(u2*((0:Int):Rat) - u3*((1:Int):Rat))*(((2:Int):Rat)*w)+u1*(((2:Int):Rat)*c7 u1 u2 u3 ((0:Int):Rat) ((1:Int):Rat) ((0:Int):Rat)))*((w*w)+(c7 u1 u2 u3 u1 u2 u3))⁻¹) ((((1:Int):Rat)*((w*w) - (c7 u1 u2 u3 u1 u2 u3))+(u3*((0:Int):Rat) - u1*((0:Int):Rat))*(((2:Int):Rat)*w)+u2*(((2:Int):Rat)*c7 u1 u2 u3 ((0:Int):Rat) ((1:Int):Rat) ((0:Int):Rat)))*((w*w)+(c7 u1 u2 u3 u1 u2 u3))⁻¹) ((((0:Int):Rat)*((w*w) - (c7 u1 u2 u3 u1 u2 u3))+(u1*((1:Int):Rat) - u2*((0:Int):Rat))*(((2:Int):Rat)*w)+u3*(((2:Int):Rat)*c7 u1 u2 u3 ((0:Int):Rat) ((1:Int):Rat) ((0:Int):Rat)))*((w*w)+(c7 u1 u2 u3 u1 u2 u3))⁻¹) ((((0:Int):Rat)*((w*w) - (c7 u1 u2 u3 u1 u2 u3))+(u2*((1:Int):Rat) - u3*((0:Int):Rat))*(((2:Int):Rat)*w)+u1*(((2:Int):Rat)*c7 u1 u2 u3 ((0:Int):Rat) ((0:Int):Rat) ((1:Int):Rat)))*((w*w)+(c7 u1 u2 u3 u1 u2 u3))⁻¹) ((((0:Int):Rat)*((w*w) - (c7 u1 u2 u3 u1 u2 u3))+(u3*((0:Int):Rat) - u1*((1:Int):Rat))*(((2:Int):Rat)*w)+u2*(((2:Int):Rat)*c7 u1 u2 u3 ((0:Int):Rat) ((0:Int):Rat) ((1:Int):Rat)))*((w*w)+(c7 u1 u2 u3 u1 u2 u3))⁻¹) ((((1:Int):Rat)*((w*w) - (c7 u1 u2 u3 u1 u2 u3))+(u1*((0:Int):Rat) - u2*((0:Int):Rat))*(((2:Int):Rat)*w)+u3*(((2:Int):Rat)*c7 u1 u2 u3 ((0:Int):Rat) ((0:Int):Rat) ((1:Int):Rat)))*((w*w)+(c7 u1 u2 u3 u1 u2 u3))⁻¹))]):=by
  have c_c:=a7n (c5 w) (c5 u1) (c5 u2) (c5 u3) (a0g hw) (a0g hu.1) (a0g hu.2.1) (a0g hu.2.2)
  rw [fst4 hw hu.1 hu.2.1 hu.2.2] at c_c
  have c_w:=c4p hw
  have c_u:=a34 hu
  have c_z:=a60 u1 u2 u3
  have c_s:=a7m w
  obtain ⟨qu1,qu2,qu3⟩:=s9 hu
  have qw:=a0z hw
  have c_sq:=a6z w w (c8 qw rfl) (c8 qw rfl)
  have c_ow:=a77 (k:=2400) (by decide) u1 u2 u3 u1 u2 u3 qu1 qu2 qu3 qu1 qu2 qu3
  have c_two:=c_F 2 (by decide) (by decide)
  have hn0:=d03 hq
  have qsq:=c6 qw qw
  have qow:=a0e qu1 qu2 qu3 qu1 qu2 qu3
  have q2:Q 64 ((2:Int):Rat):=c1l (by decide) (by decide)
  have qi0:Q 1 (((0:Int):Rat)):=a9t
  have qi1:Q 1 (((1:Int):Rat)):=b7r
  have c_v0:=a5u 0 0 0 (by decide)
  have c_v1:=a5u 1 0 0 (by decide)
  have c_v2:=a5u 0 1 0 (by decide)
  have c_v3:=a5u 0 0 1 (by decide)
  have c_t0:=b17 (k:=15000) (by decide) ((1:Int):Rat) ((0:Int):Rat) ((0:Int):Rat) (w*w) (c7 u1 u2 u3 u1 u2 u3) ((2:Int):Rat) w u1 u2 u3 hn0 ⟨j4 qi1 rfl,j4 qi0 rfl,j4 qi0 rfl⟩ ⟨j4 qu1 rfl,j4 qu2 rfl,j4 qu3 rfl⟩ (j4 qsq rfl) (j4 qow rfl) (j4 q2 rfl) (j4 qw rfl)
  have c_t1:=b17 (k:=15000) (by decide) ((0:Int):Rat) ((1:Int):Rat) ((0:Int):Rat) (w*w) (c7 u1 u2 u3 u1 u2 u3) ((2:Int):Rat) w u1 u2 u3 hn0 ⟨j4 qi0 rfl,j4 qi1 rfl,j4 qi0 rfl⟩ ⟨j4 qu1 rfl,j4 qu2 rfl,j4 qu3 rfl⟩ (j4 qsq rfl) (j4 qow rfl) (j4 q2 rfl) (j4 qw rfl)
  have c_t2:=b17 (k:=15000) (by decide) ((0:Int):Rat) ((0:Int):Rat) ((1:Int):Rat) (w*w) (c7 u1 u2 u3 u1 u2 u3) ((2:Int):Rat) w u1 u2 u3 hn0 ⟨j4 qi0 rfl,j4 qi0 rfl,j4 qi1 rfl⟩ ⟨j4 qu1 rfl,j4 qu2 rfl,j4 qu3 rfl⟩ (j4 qsq rfl) (j4 qow rfl) (j4 q2 rfl) (j4 qw rfl)
  have hz:decide (u1=0∧u2=0∧u3=0)=true→w.num.sign≠0:=fun h hs=>hq ⟨a2a.1 hs,of_decide_eq_true h⟩
  generalize decide (u1=0∧u2=0∧u3=0)=b at *
  generalize w.num.sign=sg at *
  have hb:b=false∨(b=true∧sg≠0):=by
    cases b
    · exact .inl rfl
    · exact .inr ⟨rfl,hz rfl⟩
  clear hz
  have c_g:=b3r (k:=1000000) (by decide) (((0:Int):Rat)) (((0:Int):Rat)) (((0:Int):Rat)) ((((1:Int):Rat)*((w*w) - (c7 u1 u2 u3 u1 u2 u3))+(u2*((0:Int):Rat) - u3*((0:Int):Rat))*(((2:Int):Rat)*w)+u1*(((2:Int):Rat)*c7 u1 u2 u3 ((1:Int):Rat) ((0:Int):Rat) ((0:Int):Rat)))*((w*w)+(c7 u1 u2 u3 u1 u2 u3))⁻¹) ((((0:Int):Rat)*((w*w) - (c7 u1 u2 u3 u1 u2 u3))+(u3*((1:Int):Rat) - u1*((0:Int):Rat))*(((2:Int):Rat)*w)+u2*(((2:Int):Rat)*c7 u1 u2 u3 ((1:Int):Rat) ((0:Int):Rat) ((0:Int):Rat)))*((w*w)+(c7 u1 u2 u3 u1 u2 u3))⁻¹) ((((0:Int):Rat)*((w*w) - (c7 u1 u2 u3 u1 u2 u3))+(u1*((0:Int):Rat) - u2*((1:Int):Rat))*(((2:Int):Rat)*w)+u3*(((2:Int):Rat)*c7 u1 u2 u3 ((1:Int):Rat) ((0:Int):Rat) ((0:Int):Rat)))*((w*w)+(c7 u1 u2 u3 u1 u2 u3))⁻¹) ((((0:Int):Rat)*((w*w) - (c7 u1 u2 u3 u1 u2 u3))+(u2*((0:Int):Rat) - u3*((1:Int):Rat))*(((2:Int):Rat)*w)+u1*(((2:Int):Rat)*c7 u1 u2 u3 ((0:Int):Rat) ((1:Int):Rat) ((0:Int):Rat)))*((w*w)+(c7 u1 u2 u3 u1 u2 u3))⁻¹) ((((1:Int):Rat)*((w*w) - (c7 u1 u2 u3 u1 u2 u3))+(u3*((0:Int):Rat) - u1*((0:Int):Rat))*(((2:Int):Rat)*w)+u2*(((2:Int):Rat)*c7 u1 u2 u3 ((0:Int):Rat) ((1:Int):Rat) ((0:Int):Rat)))*((w*w)+(c7 u1 u2 u3 u1 u2 u3))⁻¹) ((((0:Int):Rat)*((w*w) - (c7 u1 u2 u3 u1 u2 u3))+(u1*((1:Int):Rat) - u2*((0:Int):Rat))*(((2:Int):Rat)*w)+u3*(((2:Int):Rat)*c7 u1 u2 u3 ((0:Int):Rat) ((1:Int):Rat) ((0:Int):Rat)))*((w*w)+(c7 u1 u2 u3 u1 u2 u3))⁻¹) ((((0:Int):Rat)*((w*w) - (c7 u1 u2 u3 u1 u2 u3))+(u2*((1:Int):Rat) - u3*((0:Int):Rat))*(((2:Int):Rat)*w)+u1*(((2:Int):Rat)*c7 u1 u2 u3 ((0:Int):Rat) ((0:Int):Rat) ((1:Int):Rat)))*((w*w)+(c7 u1 u2 u3 u1 u2 u3))⁻¹) ((((0:Int):Rat)*((w*w) - (c7 u1 u2 u3 u1 u2 u3))+(u3*((0:Int):Rat) - u1*((1:Int):Rat))*(((2:Int):Rat)*w)+u2*(((2:Int):Rat)*c7 u1 u2 u3 ((0:Int):Rat) ((0:Int):Rat) ((1:Int):Rat)))*((w*w)+(c7 u1 u2 u3 u1 u2 u3))⁻¹) ((((1:Int):Rat)*((w*w) - (c7 u1 u2 u3 u1 u2 u3))+(u1*((0:Int):Rat) - u2*((0:Int):Rat))*(((2:Int):Rat)*w)+u3*(((2:Int):Rat)*c7 u1 u2 u3 ((0:Int):Rat) ((0:Int):Rat) ((1:Int):Rat)))*((w*w)+(c7 u1 u2 u3 u1 u2 u3))⁻¹) ⟨j4 qi0 rfl,j4 qi0 rfl,j4 qi0 rfl⟩ ⟨j4 (c6 (f0 (f0 (c6 qi1 (j9 qsq qow)) (c6 (j9 (c6 qu2 qi0) (c6 qu3 qi0)) (c6 q2 qw))) (c6 qu1 (c6 q2 (f0 (f0 (c6 qu1 qi1) (c6 qu2 qi0)) (c6 qu3 qi0))))) (a25 (f0 qsq qow))) rfl,j4 (c6 (f0 (f0 (c6 qi0 (j9 qsq qow)) (c6 (j9 (c6 qu3 qi1) (c6 qu1 qi0)) (c6 q2 qw))) (c6 qu2 (c6 q2 (f0 (f0 (c6 qu1 qi1) (c6 qu2 qi0)) (c6 qu3 qi0))))) (a25 (f0 qsq qow))) rfl,j4 (c6 (f0 (f0 (c6 qi0 (j9 qsq qow)) (c6 (j9 (c6 qu1 qi0) (c6 qu2 qi1)) (c6 q2 qw))) (c6 qu3 (c6 q2 (f0 (f0 (c6 qu1 qi1) (c6 qu2 qi0)) (c6 qu3 qi0))))) (a25 (f0 qsq qow))) rfl⟩ ⟨j4 (c6 (f0 (f0 (c6 qi0 (j9 qsq qow)) (c6 (j9 (c6 qu2 qi0) (c6 qu3 qi1)) (c6 q2 qw))) (c6 qu1 (c6 q2 (f0 (f0 (c6 qu1 qi0) (c6 qu2 qi1)) (c6 qu3 qi0))))) (a25 (f0 qsq qow))) rfl,j4 (c6 (f0 (f0 (c6 qi1 (j9 qsq qow)) (c6 (j9 (c6 qu3 qi0) (c6 qu1 qi0)) (c6 q2 qw))) (c6 qu2 (c6 q2 (f0 (f0 (c6 qu1 qi0) (c6 qu2 qi1)) (c6 qu3 qi0))))) (a25 (f0 qsq qow))) rfl,j4 (c6 (f0 (f0 (c6 qi0 (j9 qsq qow)) (c6 (j9 (c6 qu1 qi1) (c6 qu2 qi0)) (c6 q2 qw))) (c6 qu3 (c6 q2 (f0 (f0 (c6 qu1 qi0) (c6 qu2 qi1)) (c6 qu3 qi0))))) (a25 (f0 qsq qow))) rfl⟩ ⟨j4 (c6 (f0 (f0 (c6 qi0 (j9 qsq qow)) (c6 (j9 (c6 qu2 qi1) (c6 qu3 qi0)) (c6 q2 qw))) (c6 qu1 (c6 q2 (f0 (f0 (c6 qu1 qi0) (c6 qu2 qi0)) (c6 qu3 qi1))))) (a25 (f0 qsq qow))) rfl,j4 (c6 (f0 (f0 (c6 qi0 (j9 qsq qow)) (c6 (j9 (c6 qu3 qi0) (c6 qu1 qi1)) (c6 q2 qw))) (c6 qu2 (c6 q2 (f0 (f0 (c6 qu1 qi0) (c6 qu2 qi0)) (c6 qu3 qi1))))) (a25 (f0 qsq qow))) rfl,j4 (c6 (f0 (f0 (c6 qi1 (j9 qsq qow)) (c6 (j9 (c6 qu1 qi0) (c6 qu2 qi0)) (c6 q2 qw))) (c6 qu3 (c6 q2 (f0 (f0 (c6 qu1 qi0) (c6 qu2 qi0)) (c6 qu3 qi1))))) (a25 (f0 qsq qow))) rfl⟩ hh
  refine r8 Tryz.func62 rfl Tryz.ntmps62 ?_
  intro w0 E0 hc
  repeat' (first|(with_reducible first|refine j0 ?_|refine zwk ?_|refine i6 ?_|refine zgo ?_|refine zbn ?_|refine zge Tryz.results62 ?_|refine Sub.refl _|refine f9|refine w6 (out':=?_) ?_|refine u9 (y:=?_) ?_|refine w5 (eo':=?_) ?_)|(with_reducible refine zrs [1] hc ?_ ?_;focus (with_unfolding_all rfl))|(with_reducible refine zrm [1] hc mixed ?_ ?_;focus (with_unfolding_all rfl))|(with_reducible refine f6 ?_ ?_;focus (first|decide|omega))|(with_reducible first|refine zg2 ?_ ?_|refine zbo ?_|refine zg3 ?_ (fun h=>?_) (fun h=>?_)|refine zg4 (fun h=>?_) (fun h=>?_)|fail)|(omega;done))
  refine a05 hc 0 (sz:=4) (ro:=false) (g:=fun _=> [.v (.string (bs (c5 w))),.v (.string (bs (c5 u1))),.v (.string (bs (c5 u2))),.v (.string (bs (c5 u3)))]) (Is.refl _) ⟨trivial,trivial,trivial,trivial,trivial⟩ rfl ?_
  refine m7 (st':=n5 [(1,.one (.pp [.v (.string (bs (c5 w))),.v (.string (bs (c5 u1))),.v (.string (bs (c5 u2))),.v (.string (bs (c5 u3)))])),(2,.one (.ptr 1 12 0 0)),(3,N 0)] [(1,⟨12,1,fun _=> [.v (.string ⟨#[]⟩),.v (.string ⟨#[]⟩),.v (.string ⟨#[]⟩),.v (.string ⟨#[]⟩),.v (.string ⟨#[]⟩),.v (.string ⟨#[]⟩),.v (.string ⟨#[]⟩),.v (.string ⟨#[]⟩),.v (.string ⟨#[]⟩),.v (.string ⟨#[]⟩),.v (.string ⟨#[]⟩),.v (.string ⟨#[]⟩)],false⟩)] 2) ?_ ?_
  · refine zW1 ?_ <;> repeat' (with_reducible first|exact trivial|refine j3 ?_ ?_|refine t7 (fun i hi=>?_))
  rcases hb with rfl|⟨rfl,hb⟩
  all_goals
    repeat' (first|(with_reducible first|refine j0 ?_|refine zwk ?_|refine i6 ?_|refine zgo ?_|refine zbn ?_|refine zge Tryz.results62 ?_|refine Sub.refl _|refine f9|refine w6 (out':=?_) ?_|refine u9 (y:=?_) ?_|refine w5 (eo':=?_) ?_)|(with_reducible refine zrs [9] hc ?_ ?_;focus (with_unfolding_all rfl))|(with_reducible refine zrm [9] hc mixed ?_ ?_;focus (with_unfolding_all rfl))|(with_reducible refine f6 ?_ ?_;focus (first|decide|omega))|(with_reducible first|refine zg2 ?_ ?_|refine c9 c_c ?_ ?_|refine c9 c_w ?_ ?_|refine c9 c_u ?_ ?_|refine c9 c_s ?_ ?_|refine c9 c_z ?_ ?_|refine c9 c_sq ?_ ?_|refine c9 c_ow ?_ ?_|refine c9 c_two ?_ ?_|refine zbo ?_|refine zg3 ?_ (fun h=>?_) (fun h=>?_)|refine zg4 (fun h=>?_) (fun h=>?_)|fail)|((first|omega|exact absurd rfl (by assumption));done))
  all_goals
    refine m7 (st':=n5 [(2,.one (.ptr 1 12 0 0)),(3,N 0),(5,.one (.ptr 2 4 0 0)),(6,.one (.ptr 3 12 0 0)),(7,.one (.ptr 4 4 0 0)),(8,.one (.ptr 5 4 0 0)),(9,.one (.ptr 6 4 0 0))] [(1,⟨12,1,fun _=> [.v (.string ⟨#[]⟩),.v (.string ⟨#[]⟩),.v (.string ⟨#[]⟩),.v (.string ⟨#[]⟩),.v (.string ⟨#[]⟩),.v (.string ⟨#[]⟩),.v (.string ⟨#[]⟩),.v (.string ⟨#[]⟩),.v (.string ⟨#[]⟩),.v (.string ⟨#[]⟩),.v (.string ⟨#[]⟩),.v (.string ⟨#[]⟩)],false⟩),(2,⟨4,1,fun _=> [.frac w],false⟩),(3,⟨12,1,fun _=> [.frac u1,.frac u2,.frac u3],false⟩),(4,⟨4,1,fun _=> [.frac (w*w)],false⟩),(5,⟨4,1,fun _=> [.frac (c7 u1 u2 u3 u1 u2 u3)],false⟩),(6,⟨4,1,fun _=> [.frac ((2:Int):Rat)],false⟩)] 7) ?_ ?_
    · refine zW1 ?_ <;> repeat' (with_reducible first|exact trivial|refine j3 ?_ ?_|refine t7 (fun i hi=>?_))
    refine a05 hc 2 (sz:=4) (ro:=false) (g:=fun _=> [.frac w]) (Is.refl _) ⟨trivial,trivial⟩ rfl ?_
    refine a05 hc 3 (sz:=12) (ro:=false) (g:=fun _=> [.frac u1,.frac u2,.frac u3]) (Is.refl _) ⟨trivial,trivial,trivial,trivial⟩ rfl ?_
    refine a05 hc 4 (sz:=4) (ro:=false) (g:=fun _=> [.frac (w*w)]) (Is.refl _) ⟨trivial,trivial⟩ rfl ?_
    refine a05 hc 5 (sz:=4) (ro:=false) (g:=fun _=> [.frac (c7 u1 u2 u3 u1 u2 u3)]) (Is.refl _) ⟨trivial,trivial⟩ rfl ?_
    refine a05 hc 6 (sz:=4) (ro:=false) (g:=fun _=> [.frac ((2:Int):Rat)]) (Is.refl _) ⟨trivial,trivial⟩ rfl ?_
    refine m7 (st':=n5 [(2,.one (.ptr 1 12 0 0)),(3,N 0),(5,.one (.pp [.frac w])),(6,.one (.pp [.frac u1,.frac u2,.frac u3])),(7,.one (.pp [.frac (w*w)])),(8,.one (.pp [.frac (c7 u1 u2 u3 u1 u2 u3)])),(9,.one (.pp [.frac ((2:Int):Rat)]))] [(1,⟨12,1,fun _=> [.v (.string ⟨#[]⟩),.v (.string ⟨#[]⟩),.v (.string ⟨#[]⟩),.v (.string ⟨#[]⟩),.v (.string ⟨#[]⟩),.v (.string ⟨#[]⟩),.v (.string ⟨#[]⟩),.v (.string ⟨#[]⟩),.v (.string ⟨#[]⟩),.v (.string ⟨#[]⟩),.v (.string ⟨#[]⟩),.v (.string ⟨#[]⟩)],false⟩)] 7) ?_ ?_
    · refine zW1 ?_ <;> repeat' (with_reducible first|exact trivial|refine j3 ?_ ?_|refine t7 (fun i hi=>?_))
    repeat' (first|refine n7 hc Tryz.results62 ?_|(with_reducible first|exact trivial|refine j3 ?_ ?_|refine m8 (fun h=>?_)|refine c9 c_v0 ?_ ?_|refine c9 c_v1 ?_ ?_|refine c9 c_v2 ?_ ?_|refine c9 c_v3 ?_ ?_|refine c9 c_t0 ?_ ?_|refine c9 c_t1 ?_ ?_|refine c9 c_t2 ?_ ?_|refine c9 c_g ?_ ?_|fail)|(omega;done))
end Go.Proofs
end
