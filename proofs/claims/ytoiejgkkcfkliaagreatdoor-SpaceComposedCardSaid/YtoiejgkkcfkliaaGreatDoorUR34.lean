/- Lemmas on the program and its library: part UR34. -/
import Derived.Test.YtoiejgkkcfkliaaGreatDoorUR
set_option linter.unusedVariables false
set_option linter.unusedSimpArgs false
section
set_option maxHeartbeats 8000000
set_option maxRecDepth 100000
namespace Go.Proofs
open Go.Ax
def tuC (sb tw rc:ByteArray) (u:V3) (v1 v2 v3:ByteArray) (A:V3):Prop:=∃(X Y Z Z2 D C:V3) (d d2:ByteArray),
  Ax.Pure Tryz.prog G 112 [S sb,.agg [.v (.string v1),.v (.string v2),.v (.string v3)]] (txV X)∧Ax.Pure Tryz.prog G 78 [txV u,.agg [.v (.string v1),.v (.string v2),.v (.string v3)]] (txV C)∧Ax.Pure Tryz.prog G 112 [S tw,txV C] (txV Y)∧
  Ax.Pure Tryz.prog G 84 [txV X,txV Y] (txV Z)∧Ax.Pure Tryz.prog G 76 [txV u,.agg [.v (.string v1),.v (.string v2),.v (.string v3)]] (S d)∧Ax.Pure Tryz.prog G 74 [S ⟨#[50]⟩,S d] (S d2)∧
  Ax.Pure Tryz.prog G 112 [S d2,txV u] (txV D)∧Ax.Pure Tryz.prog G 84 [txV Z,txV D] (txV Z2)∧Ax.Pure Tryz.prog G 112 [S rc,txV Z2] (txV A)
def axs (i j:Nat) (t:ByteArray):ByteArray:=if j < i then t else ⟨#[]⟩
theorem d2v (w:List UInt8) (u:V3) (A:Nat→V3) (nm ww uu sb tw rc:ByteArray) (c_ww:Ax.Pure Tryz.prog G 74 [S (bs w),S (bs w)] (S ww)) (c_uu:Ax.Pure Tryz.prog G 57 [txV u] (S uu)) (c_nm:Ax.Pure Tryz.prog G 59 [S ww,S uu] (S nm)) (c_sb:Ax.Pure Tryz.prog G 105 [S ww,S uu] (S sb))
    (c_tw:Ax.Pure Tryz.prog G 74 [S ⟨#[50]⟩,S (bs w)] (S tw)) (c_rc:Ax.Pure Tryz.prog G 191 [S nm] (S rc)) (c_or:Ax.Pure Tryz.prog G 89 [] (.agg [.v (.string ⟨#[48]⟩),.v (.string ⟨#[48]⟩),.v (.string ⟨#[48]⟩)]))
    (h0:tuC sb tw rc u ⟨#[49]⟩ ⟨#[48]⟩ ⟨#[48]⟩ (A 0)) (h1:tuC sb tw rc u ⟨#[48]⟩ ⟨#[49]⟩ ⟨#[48]⟩ (A 1)) (h2:tuC sb tw rc u ⟨#[48]⟩ ⟨#[48]⟩ ⟨#[49]⟩ (A 2)) :
    Ax.Pure Tryz.prog G 65 [.agg [.v (.string (bs w)),.v (.string (bs u.1)),.v (.string (bs u.2.1)),.v (.string (bs u.2.2))]] (txF ([48],[48],[48]) (A 0) (A 1) (A 2)):=by
  refine r8 Tryz.func65 rfl Tryz.ntmps65 ?_
  intro w0 E0 hc
  repeat' (first|(with_reducible first|refine j0 ?_|refine zr0 hc ?_|refine zm0 hc ?_|refine zwk ?_|refine i6 ?_|refine zgo ?_|refine zbn ?_|refine zge Tryz.results65 ?_|refine Sub.refl _|refine f9|refine w6 (out':=?_) ?_|refine u9 (y:=?_) ?_|refine w5 (eo':=?_) ?_)|(with_reducible refine f6 ?_ ?_;focus (first|decide|omega))|(with_reducible first|refine zg2 ?_ ?_|refine c9 c_ww ?_ ?_|refine c9 c_uu ?_ ?_|refine c9 c_nm ?_ ?_|refine zbo ?_|refine zg3 ?_ (fun h=>?_) (fun h=>?_)|refine zg4 (fun h=>?_) (fun h=>?_)|fail)|(omega;done))
  refine m9 (α:=Nat) (fun i=>n5 [(2,.one (.ptr 1 12 0 0)),(3,S (bs w)),(4,.one (.ptr 2 3 0 0)),(5,S nm),(6,.one (.ptr 3 9 0 0)),(7,N i)]
    [(1,⟨12,1,fun _=> [.v (.string ⟨#[]⟩),.v (.string ⟨#[]⟩),.v (.string ⟨#[]⟩),.v (.string ⟨#[]⟩),.v (.string ⟨#[]⟩),.v (.string ⟨#[]⟩),.v (.string ⟨#[]⟩),.v (.string ⟨#[]⟩),.v (.string ⟨#[]⟩),.v (.string ⟨#[]⟩),.v (.string ⟨#[]⟩),.v (.string ⟨#[]⟩)],false⟩),(2,⟨3,1,fun _=> [.v (.string (bs u.1)),.v (.string (bs u.2.1)),.v (.string (bs u.2.2))],false⟩),(3,⟨9,1,fun _=> [.v (.string (axs i 0 (bs (A 0).1))),.v (.string (axs i 0 (bs (A 0).2.1))),.v (.string (axs i 0 (bs (A 0).2.2))),.v (.string (axs i 1 (bs (A 1).1))),.v (.string (axs i 1 (bs (A 1).2.1))),.v (.string (axs i 1 (bs (A 1).2.2))),.v (.string (axs i 2 (bs (A 2).1))),.v (.string (axs i 2 (bs (A 2).2.1))),.v (.string (axs i 2 (bs (A 2).2.2)))],false⟩)] 4) (fun i=>i≤3) (fun i=>3 - i) 0 (by decide) ?_ ?_
  · refine zW1 ?_ <;> repeat' (with_reducible first|exact trivial|refine j3 ?_ ?_|refine t7 (fun i hi=>?_))
    all_goals exact u4.refl _
  intro i hi
  rcases (by omega:i=0∨i=1∨i=2∨i=3) with rfl|rfl|rfl|rfl
  · obtain ⟨_,_,_,_,_,_,_,_,c_t1,c_t2,c_t3,c_t4,c_t5,c_t6,c_t7,c_t8,c_t9⟩:=h0
    repeat' (first|(with_reducible first|refine j0 ?_|refine zr0 hc ?_|refine zm0 hc ?_|refine zwk ?_|refine i6 ?_|refine zgo ?_|refine zbn ?_|refine zge Tryz.results65 ?_|refine Sub.refl _|refine f9|refine w6 (out':=?_) ?_|refine u9 (y:=?_) ?_|refine w5 (eo':=?_) ?_)|(with_reducible refine f6 ?_ ?_;focus (first|decide|omega))|(with_reducible first|refine zg2 ?_ ?_|refine c9 c_ww ?_ ?_|refine c9 c_uu ?_ ?_|refine c9 c_sb ?_ ?_|refine c9 c_tw ?_ ?_|refine c9 c_rc ?_ ?_|refine c9 c_or ?_ ?_|refine c9 c_t1 ?_ ?_|refine c9 c_t2 ?_ ?_|refine c9 c_t3 ?_ ?_|refine c9 c_t4 ?_ ?_|refine c9 c_t5 ?_ ?_|refine c9 c_t6 ?_ ?_|refine c9 c_t7 ?_ ?_|refine c9 c_t8 ?_ ?_|refine c9 c_t9 ?_ ?_|refine zbo ?_|refine zg3 ?_ (fun h=>?_) (fun h=>?_)|refine zg4 (fun h=>?_) (fun h=>?_)|fail)|(omega;done))
    refine ⟨1,by omega,by omega,?_⟩
    refine zW1 ?_ <;> repeat' (with_reducible first|exact trivial|refine j3 ?_ ?_|refine t7 (fun i hi=>?_))
    all_goals exact u4.refl _
  · obtain ⟨_,_,_,_,_,_,_,_,c_t1,c_t2,c_t3,c_t4,c_t5,c_t6,c_t7,c_t8,c_t9⟩:=h1
    repeat' (first|(with_reducible first|refine j0 ?_|refine zr0 hc ?_|refine zm0 hc ?_|refine zwk ?_|refine i6 ?_|refine zgo ?_|refine zbn ?_|refine zge Tryz.results65 ?_|refine Sub.refl _|refine f9|refine w6 (out':=?_) ?_|refine u9 (y:=?_) ?_|refine w5 (eo':=?_) ?_)|(with_reducible refine f6 ?_ ?_;focus (first|decide|omega))|(with_reducible first|refine zg2 ?_ ?_|refine c9 c_ww ?_ ?_|refine c9 c_uu ?_ ?_|refine c9 c_sb ?_ ?_|refine c9 c_tw ?_ ?_|refine c9 c_rc ?_ ?_|refine c9 c_or ?_ ?_|refine c9 c_t1 ?_ ?_|refine c9 c_t2 ?_ ?_|refine c9 c_t3 ?_ ?_|refine c9 c_t4 ?_ ?_|refine c9 c_t5 ?_ ?_|refine c9 c_t6 ?_ ?_|refine c9 c_t7 ?_ ?_|refine c9 c_t8 ?_ ?_|refine c9 c_t9 ?_ ?_|refine zbo ?_|refine zg3 ?_ (fun h=>?_) (fun h=>?_)|refine zg4 (fun h=>?_) (fun h=>?_)|fail)|(omega;done))
    refine ⟨2,by omega,by omega,?_⟩
    refine zW1 ?_ <;> repeat' (with_reducible first|exact trivial|refine j3 ?_ ?_|refine t7 (fun i hi=>?_))
    all_goals exact u4.refl _
  · obtain ⟨_,_,_,_,_,_,_,_,c_t1,c_t2,c_t3,c_t4,c_t5,c_t6,c_t7,c_t8,c_t9⟩:=h2
    repeat' (first|(with_reducible first|refine j0 ?_|refine zr0 hc ?_|refine zm0 hc ?_|refine zwk ?_|refine i6 ?_|refine zgo ?_|refine zbn ?_|refine zge Tryz.results65 ?_|refine Sub.refl _|refine f9|refine w6 (out':=?_) ?_|refine u9 (y:=?_) ?_|refine w5 (eo':=?_) ?_)|(with_reducible refine f6 ?_ ?_;focus (first|decide|omega))|(with_reducible first|refine zg2 ?_ ?_|refine c9 c_ww ?_ ?_|refine c9 c_uu ?_ ?_|refine c9 c_sb ?_ ?_|refine c9 c_tw ?_ ?_|refine c9 c_rc ?_ ?_|refine c9 c_or ?_ ?_|refine c9 c_t1 ?_ ?_|refine c9 c_t2 ?_ ?_|refine c9 c_t3 ?_ ?_|refine c9 c_t4 ?_ ?_|refine c9 c_t5 ?_ ?_|refine c9 c_t6 ?_ ?_|refine c9 c_t7 ?_ ?_|refine c9 c_t8 ?_ ?_|refine c9 c_t9 ?_ ?_|refine zbo ?_|refine zg3 ?_ (fun h=>?_) (fun h=>?_)|refine zg4 (fun h=>?_) (fun h=>?_)|fail)|(omega;done))
    refine ⟨3,by omega,by omega,?_⟩
    refine zW1 ?_ <;> repeat' (with_reducible first|exact trivial|refine j3 ?_ ?_|refine t7 (fun i hi=>?_))
    all_goals exact u4.refl _
  · repeat' (first|(with_reducible first|refine j0 ?_|refine zr0 hc ?_|refine zm0 hc ?_|refine zwk ?_|refine i6 ?_|refine zgo ?_|refine zbn ?_|refine zge Tryz.results65 ?_|refine Sub.refl _|refine f9|refine w6 (out':=?_) ?_|refine u9 (y:=?_) ?_|refine w5 (eo':=?_) ?_)|(with_reducible refine f6 ?_ ?_;focus (first|decide|omega))|(with_reducible first|refine zg2 ?_ ?_|refine c9 c_or ?_ ?_|refine zbo ?_|refine zg3 ?_ (fun h=>?_) (fun h=>?_)|refine zg4 (fun h=>?_) (fun h=>?_)|fail)|(omega;done))
    all_goals exact Sub.refl _
end Go.Proofs
end
