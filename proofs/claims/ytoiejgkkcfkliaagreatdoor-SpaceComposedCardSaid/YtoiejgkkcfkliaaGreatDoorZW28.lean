/- Lemmas on the program and its library: part ZW28. -/
import Derived.Test.YtoiejgkkcfkliaaGreatDoorZW27
set_option linter.unusedVariables false
set_option linter.unusedSimpArgs false
section
set_option maxHeartbeats 4000000
set_option maxRecDepth 100000
namespace Go.Proofs
open Go.Ax
def okI (x:Int):Prop:=-999999999≤x∧x≤999999999
def part (i j:Nat) (x:Int):Int:=if j < i then x else 0
theorem d8a {k:Nat} (hk:k≤1000000) (a b c d p q r e:Rat) (c_n:Ax.Pure Tryz.prog G 261 [hA a b c d] (hA p q r e)) (qe:Q k e) (hok:okI p.num∧okI q.num∧okI r.num):Ax.Pure Tryz.prog G 229 [hA a b c d] (.tup [tH p.num q.num r.num (c5 e),Bo (!y4 e)]):=by
  have c_t:=b4l hk e qe
  have c_l:=b02 hk e qe
  have S:∀i:Nat,i < 3→0 < 4∧(0≤(i:Int)∧(i:Int) < ((3:Nat):Int))∧(true=false→4=1):=fun i hi=>⟨by omega,⟨by omega,by omega⟩,fun e=>(by cases e)⟩
  have S2:∀i:Nat,i < 3→0 < 1∧0≤(i:Int)∧(i:Int) < ((3:Nat):Int):=fun i hi=>⟨by omega,by omega,by omega⟩
  have U:∀x:Rat,u4 [.frac x] [.int x.num,.int x.den]:=fun x=>b6b (u4.refl _)
  refine r8 Tryz.func229 rfl Tryz.ntmps229 ?_
  intro w0 E0 hc
  repeat' (first|(with_reducible first|refine j0 ?_|refine zr0 hc ?_|refine zm0 hc ?_|refine zwk ?_|refine i6 ?_|refine zgo ?_|refine zbn ?_|refine zge Tryz.results229 ?_|refine Sub.refl _|refine f9|refine w6 (out':=?_) ?_|refine u9 (y:=?_) ?_|refine w5 (eo':=?_) ?_)|(with_reducible refine f6 ?_ ?_;focus (first|decide|omega))|(with_reducible first|refine zg2 ?_ ?_|refine c9 c_n ?_ ?_|refine c9 c_t ?_ ?_|refine zbo ?_|refine zg3 ?_ (fun h=>?_) (fun h=>?_)|refine zg4 (fun h=>?_) (fun h=>?_)|fail)|(omega;done))
  refine m9 (α:=Nat) (fun i=>n5 [(1,.one (.ptr 0 16 0 0)),(2,.one (.ptr 1 4 0 0)),(3,Bo false),(4,.one (.ptr 2 16 0 0)),(5,.one (.ptr 3 4 0 0)),(17,vA p q r),(18,N i)] [(1,⟨4,1,fun _=> [.v (.int .i64 0),.v (.int .i64 0),.v (.int .i64 0),.v (.string (bs []))],false⟩),(2,⟨16,1,fun _=> [.frac p,.frac q,.frac r,.frac e],false⟩),(3,⟨4,1,fun _=> [.v (.int .i64 (part i 0 p.num)),.v (.int .i64 (part i 1 q.num)),.v (.int .i64 (part i 2 r.num)),.v (.string (bs (c5 e)))],false⟩)] 4) (fun i=>i≤3∧(0 < i→okI p.num)∧(1 < i→okI q.num)∧(2 < i→okI r.num)) (fun i=>3 - i) 0 ⟨Nat.zero_le _,fun h=>absurd h (by decide),fun h=>absurd h (by decide),fun h=>absurd h (by decide)⟩ ?_ ?_
  · refine zW1 ?_ <;> repeat' (with_reducible first|exact trivial|refine j3 ?_ ?_|refine t7 (fun i hi=>?_))
    all_goals exact u4.refl _
  rintro i ⟨hi,i1,i2,i3⟩
  have:i=0∨i=1∨i=2∨i=3:=by omega
  rcases this with rfl|rfl|rfl|rfl
  · repeat' (first|(with_reducible first|refine j0 ?_|refine zwk ?_|refine i6 ?_|refine zgo ?_|refine zbn ?_|refine zge Tryz.results229 ?_|refine Sub.refl _|refine f9|refine w6 (out':=?_) ?_|refine u9 (y:=?_) ?_|refine w5 (eo':=?_) ?_)|(with_reducible refine zrs [6] hc ?_ ?_;focus (with_unfolding_all rfl))|(with_reducible refine zrm [6] hc mixed ?_ ?_;focus (with_unfolding_all rfl))|(with_reducible refine f6 ?_ ?_;focus (first|decide|omega))|(with_reducible first|refine zg2 ?_ ?_|refine zbo ?_|refine zg3 ?_ (fun h=>?_) (fun h=>?_)|refine zg4 (fun h=>?_) (fun h=>?_)|fail)|((first|omega|assumption|(refine S _ ?_;omega));done))
    refine m7 (st':=n5 [(1,.one (.ptr 0 16 0 0)),(2,.one (.ptr 1 4 0 0)),(3,Bo false),(4,.one (.ptr 2 16 0 0)),(5,.one (.ptr 3 4 0 0)),(17,vA p q r),(18,N (0:Nat)),(6,N (0:Nat)),(7,.one (.ptr 4 4 0 0))] [(1,⟨4,1,fun _=> [.v (.int .i64 0),.v (.int .i64 0),.v (.int .i64 0),.v (.string (bs []))],false⟩),(2,⟨16,1,fun _=> [.frac p,.frac q,.frac r,.frac e],false⟩),(3,⟨4,1,fun _=> [.v (.int .i64 0),.v (.int .i64 0),.v (.int .i64 0),.v (.string (bs (c5 e)))],false⟩),(4,⟨4,1,fun _=> [.int p.num,.int p.den],false⟩)] 5) ?_ ?_
    · refine zW1 ?_ <;> repeat' (with_reducible first|exact trivial|refine j3 ?_ ?_|refine t7 (fun i hi=>?_))
      all_goals first|exact u4.refl _|exact U _|trace_state
    refine b83 4 [] [.int p.den] p.num rfl rfl (fun b1 b2=>?_) (fun b1=>?_)
    · repeat' (first|(with_reducible first|refine j0 ?_|refine zr0 hc ?_|refine zm0 hc ?_|refine zwk ?_|refine i6 ?_|refine zgo ?_|refine zbn ?_|refine zge Tryz.results229 ?_|refine Sub.refl _|refine f9|refine w6 (out':=?_) ?_|refine u9 (y:=?_) ?_|refine w5 (eo':=?_) ?_)|(with_reducible refine f6 ?_ ?_;focus (first|decide|omega))|(with_reducible first|refine zg2 ?_ ?_|refine c9 (b16 _) ?_ ?_|refine zbo ?_|refine zg3 ?_ (fun h=>?_) (fun h=>?_)|refine zg4 (fun h=>?_) (fun h=>?_)|fail)|((first|omega|(refine S2 _ ?_;omega)|(refine nf1 ?_;assumption)|(refine nf2 ?_;assumption));done))
      · (exfalso;unfold okI at hok;omega)
      · refine ⟨1,⟨by decide,(fun _=>⟨by omega,by omega⟩),(fun h=>absurd h (by decide)),(fun h=>absurd h (by decide))⟩,by decide,?_⟩
        refine zW1 ?_ <;> repeat' (with_reducible first|exact trivial|refine j3 ?_ ?_|refine t7 (fun i hi=>?_))
        all_goals exact u4.refl _
      · (exfalso;unfold okI at hok;omega)
    · repeat' (first|(with_reducible first|refine j0 ?_|refine zr0 hc ?_|refine zm0 hc ?_|refine zwk ?_|refine i6 ?_|refine zgo ?_|refine zbn ?_|refine zge Tryz.results229 ?_|refine Sub.refl _|refine f9|refine w6 (out':=?_) ?_|refine u9 (y:=?_) ?_|refine w5 (eo':=?_) ?_)|(with_reducible refine f6 ?_ ?_;focus (first|decide|omega))|(with_reducible first|refine zg2 ?_ ?_|refine c9 (b15 _ ?_) ?_ ?_|refine zbo ?_|refine zg3 ?_ (fun h=>?_) (fun h=>?_)|refine zg4 (fun h=>?_) (fun h=>?_)|fail)|((first|omega|(refine S2 _ ?_;omega)|(refine nf1 ?_;assumption)|(refine nf2 ?_;assumption));done))
      (exfalso;unfold okI at hok;omega)
  · repeat' (first|(with_reducible first|refine j0 ?_|refine zwk ?_|refine i6 ?_|refine zgo ?_|refine zbn ?_|refine zge Tryz.results229 ?_|refine Sub.refl _|refine f9|refine w6 (out':=?_) ?_|refine u9 (y:=?_) ?_|refine w5 (eo':=?_) ?_)|(with_reducible refine zrs [6] hc ?_ ?_;focus (with_unfolding_all rfl))|(with_reducible refine zrm [6] hc mixed ?_ ?_;focus (with_unfolding_all rfl))|(with_reducible refine f6 ?_ ?_;focus (first|decide|omega))|(with_reducible first|refine zg2 ?_ ?_|refine zbo ?_|refine zg3 ?_ (fun h=>?_) (fun h=>?_)|refine zg4 (fun h=>?_) (fun h=>?_)|fail)|((first|omega|assumption|(refine S _ ?_;omega));done))
    refine m7 (st':=n5 [(1,.one (.ptr 0 16 0 0)),(2,.one (.ptr 1 4 0 0)),(3,Bo false),(4,.one (.ptr 2 16 0 0)),(5,.one (.ptr 3 4 0 0)),(17,vA p q r),(18,N (1:Nat)),(6,N (1:Nat)),(7,.one (.ptr 4 4 0 0))] [(1,⟨4,1,fun _=> [.v (.int .i64 0),.v (.int .i64 0),.v (.int .i64 0),.v (.string (bs []))],false⟩),(2,⟨16,1,fun _=> [.frac p,.frac q,.frac r,.frac e],false⟩),(3,⟨4,1,fun _=> [.v (.int .i64 p.num),.v (.int .i64 0),.v (.int .i64 0),.v (.string (bs (c5 e)))],false⟩),(4,⟨4,1,fun _=> [.int q.num,.int q.den],false⟩)] 5) ?_ ?_
    · refine zW1 ?_ <;> repeat' (with_reducible first|exact trivial|refine j3 ?_ ?_|refine t7 (fun i hi=>?_))
      all_goals first|exact u4.refl _|exact U _|trace_state
    refine b83 4 [] [.int q.den] q.num rfl rfl (fun b1 b2=>?_) (fun b1=>?_)
    · repeat' (first|(with_reducible first|refine j0 ?_|refine zr0 hc ?_|refine zm0 hc ?_|refine zwk ?_|refine i6 ?_|refine zgo ?_|refine zbn ?_|refine zge Tryz.results229 ?_|refine Sub.refl _|refine f9|refine w6 (out':=?_) ?_|refine u9 (y:=?_) ?_|refine w5 (eo':=?_) ?_)|(with_reducible refine f6 ?_ ?_;focus (first|decide|omega))|(with_reducible first|refine zg2 ?_ ?_|refine c9 (b16 _) ?_ ?_|refine zbo ?_|refine zg3 ?_ (fun h=>?_) (fun h=>?_)|refine zg4 (fun h=>?_) (fun h=>?_)|fail)|((first|omega|(refine S2 _ ?_;omega)|(refine nf1 ?_;assumption)|(refine nf2 ?_;assumption));done))
      · (exfalso;unfold okI at hok;omega)
      · refine ⟨2,⟨by decide,(fun _=>i1 (by omega)),(fun _=>⟨by omega,by omega⟩),(fun h=>absurd h (by decide))⟩,by decide,?_⟩
        refine zW1 ?_ <;> repeat' (with_reducible first|exact trivial|refine j3 ?_ ?_|refine t7 (fun i hi=>?_))
        all_goals exact u4.refl _
      · (exfalso;unfold okI at hok;omega)
    · repeat' (first|(with_reducible first|refine j0 ?_|refine zr0 hc ?_|refine zm0 hc ?_|refine zwk ?_|refine i6 ?_|refine zgo ?_|refine zbn ?_|refine zge Tryz.results229 ?_|refine Sub.refl _|refine f9|refine w6 (out':=?_) ?_|refine u9 (y:=?_) ?_|refine w5 (eo':=?_) ?_)|(with_reducible refine f6 ?_ ?_;focus (first|decide|omega))|(with_reducible first|refine zg2 ?_ ?_|refine c9 (b15 _ ?_) ?_ ?_|refine zbo ?_|refine zg3 ?_ (fun h=>?_) (fun h=>?_)|refine zg4 (fun h=>?_) (fun h=>?_)|fail)|((first|omega|(refine S2 _ ?_;omega)|(refine nf1 ?_;assumption)|(refine nf2 ?_;assumption));done))
      (exfalso;unfold okI at hok;omega)
  · repeat' (first|(with_reducible first|refine j0 ?_|refine zwk ?_|refine i6 ?_|refine zgo ?_|refine zbn ?_|refine zge Tryz.results229 ?_|refine Sub.refl _|refine f9|refine w6 (out':=?_) ?_|refine u9 (y:=?_) ?_|refine w5 (eo':=?_) ?_)|(with_reducible refine zrs [6] hc ?_ ?_;focus (with_unfolding_all rfl))|(with_reducible refine zrm [6] hc mixed ?_ ?_;focus (with_unfolding_all rfl))|(with_reducible refine f6 ?_ ?_;focus (first|decide|omega))|(with_reducible first|refine zg2 ?_ ?_|refine zbo ?_|refine zg3 ?_ (fun h=>?_) (fun h=>?_)|refine zg4 (fun h=>?_) (fun h=>?_)|fail)|((first|omega|assumption|(refine S _ ?_;omega));done))
    refine m7 (st':=n5 [(1,.one (.ptr 0 16 0 0)),(2,.one (.ptr 1 4 0 0)),(3,Bo false),(4,.one (.ptr 2 16 0 0)),(5,.one (.ptr 3 4 0 0)),(17,vA p q r),(18,N (2:Nat)),(6,N (2:Nat)),(7,.one (.ptr 4 4 0 0))] [(1,⟨4,1,fun _=> [.v (.int .i64 0),.v (.int .i64 0),.v (.int .i64 0),.v (.string (bs []))],false⟩),(2,⟨16,1,fun _=> [.frac p,.frac q,.frac r,.frac e],false⟩),(3,⟨4,1,fun _=> [.v (.int .i64 p.num),.v (.int .i64 q.num),.v (.int .i64 0),.v (.string (bs (c5 e)))],false⟩),(4,⟨4,1,fun _=> [.int r.num,.int r.den],false⟩)] 5) ?_ ?_
    · refine zW1 ?_ <;> repeat' (with_reducible first|exact trivial|refine j3 ?_ ?_|refine t7 (fun i hi=>?_))
      all_goals first|exact u4.refl _|exact U _|trace_state
    refine b83 4 [] [.int r.den] r.num rfl rfl (fun b1 b2=>?_) (fun b1=>?_)
    · repeat' (first|(with_reducible first|refine j0 ?_|refine zr0 hc ?_|refine zm0 hc ?_|refine zwk ?_|refine i6 ?_|refine zgo ?_|refine zbn ?_|refine zge Tryz.results229 ?_|refine Sub.refl _|refine f9|refine w6 (out':=?_) ?_|refine u9 (y:=?_) ?_|refine w5 (eo':=?_) ?_)|(with_reducible refine f6 ?_ ?_;focus (first|decide|omega))|(with_reducible first|refine zg2 ?_ ?_|refine c9 (b16 _) ?_ ?_|refine zbo ?_|refine zg3 ?_ (fun h=>?_) (fun h=>?_)|refine zg4 (fun h=>?_) (fun h=>?_)|fail)|((first|omega|(refine S2 _ ?_;omega)|(refine nf1 ?_;assumption)|(refine nf2 ?_;assumption));done))
      · (exfalso;unfold okI at hok;omega)
      · refine ⟨3,⟨by decide,(fun _=>i1 (by omega)),(fun _=>i2 (by omega)),(fun _=>⟨by omega,by omega⟩)⟩,by decide,?_⟩
        refine zW1 ?_ <;> repeat' (with_reducible first|exact trivial|refine j3 ?_ ?_|refine t7 (fun i hi=>?_))
        all_goals exact u4.refl _
      · (exfalso;unfold okI at hok;omega)
    · repeat' (first|(with_reducible first|refine j0 ?_|refine zr0 hc ?_|refine zm0 hc ?_|refine zwk ?_|refine i6 ?_|refine zgo ?_|refine zbn ?_|refine zge Tryz.results229 ?_|refine Sub.refl _|refine f9|refine w6 (out':=?_) ?_|refine u9 (y:=?_) ?_|refine w5 (eo':=?_) ?_)|(with_reducible refine f6 ?_ ?_;focus (first|decide|omega))|(with_reducible first|refine zg2 ?_ ?_|refine c9 (b15 _ ?_) ?_ ?_|refine zbo ?_|refine zg3 ?_ (fun h=>?_) (fun h=>?_)|refine zg4 (fun h=>?_) (fun h=>?_)|fail)|((first|omega|(refine S2 _ ?_;omega)|(refine nf1 ?_;assumption)|(refine nf2 ?_;assumption));done))
      (exfalso;unfold okI at hok;omega)
  · repeat' (first|(with_reducible first|refine j0 ?_|refine zr0 hc ?_|refine zm0 hc ?_|refine zwk ?_|refine i6 ?_|refine zgo ?_|refine zbn ?_|refine zge Tryz.results229 ?_|refine Sub.refl _|refine f9|refine w6 (out':=?_) ?_|refine u9 (y:=?_) ?_|refine w5 (eo':=?_) ?_)|(with_reducible refine f6 ?_ ?_;focus (first|decide|omega))|(with_reducible first|refine zg2 ?_ ?_|refine c9 c_l ?_ ?_|refine zbo ?_|refine zg3 ?_ (fun h=>?_) (fun h=>?_)|refine zg4 (fun h=>?_) (fun h=>?_)|fail)|(omega;done))
    all_goals exact Sub.refl _
theorem b9j {k:Nat} (hk:k≤1000000) (a b c d p q r e:Rat) (c_n:Ax.Pure Tryz.prog G 261 [hA a b c d] (hA p q r e)) (qe:Q k e) (hok:(okI p.num∧okI q.num∧okI r.num)∧y4 e=false):Ax.Pure Tryz.prog G 144 [hA a b c d] (.tup [tH p.num q.num r.num (c5 e),N 0]):=by
  have c_t:=d8a hk a b c d p q r e c_n qe hok.1
  rw [hok.2] at c_t
  refine r8 Tryz.func144 rfl Tryz.ntmps144 ?_
  intro w0 E0 hc
  repeat' (first|(with_reducible first|refine j0 ?_|refine zr0 hc ?_|refine zm0 hc ?_|refine zwk ?_|refine i6 ?_|refine zgo ?_|refine zbn ?_|refine zge Tryz.results144 ?_|refine Sub.refl _|refine f9|refine w6 (out':=?_) ?_|refine u9 (y:=?_) ?_|refine w5 (eo':=?_) ?_)|(with_reducible refine f6 ?_ ?_;focus (first|decide|omega))|(with_reducible first|refine zg2 ?_ ?_|refine c9 c_t ?_ ?_|refine zbo ?_|refine zg3 ?_ (fun h=>?_) (fun h=>?_)|refine zg4 (fun h=>?_) (fun h=>?_)|fail)|((first|omega|(refine nf1 ?_;assumption)|(refine nf2 ?_;assumption));done))
end Go.Proofs
end
