/- Lemmas on the program and its library: part QCW. -/
import Derived.Test.YtoiejgkkcfkliaaGreatDoorQSW
import Derived.Test.YtoiejgkkcfkliaaGreatDoorZW33
set_option linter.unusedVariables false
set_option linter.unusedSimpArgs false
section
namespace Go.Proofs
open Go.Ax
theorem lc_lcm (m n:Nat):lc m n=Nat.lcm m n:=by
  unfold lc Nat.lcm
  rw [Nat.div_mul_right_comm (Nat.gcd_dvd_left m n)]
end Go.Proofs
end
section
set_option maxHeartbeats 4000000
set_option maxRecDepth 100000
namespace Go.Proofs
open Go.Ax
theorem c_HText_no {k:Nat} (hk:k≤1000000) (a b c d p q r e:Rat) (c_n:Ax.Pure Tryz.prog G 261 [hA a b c d] (hA p q r e)) (qe:Q k e) (hok:¬(okI p.num∧okI q.num∧okI r.num)):Ax.Pure Tryz.prog G 229 [hA a b c d] (.tup [tH 0 0 0 [],Bo false]):=by
  have c_t:=c_FText hk e qe
  have c_l:=c_FLarge hk e qe
  have S:∀i:Nat,i < 3→0 < 4∧(0≤(i:Int)∧(i:Int) < ((3:Nat):Int))∧(true=false→4=1):=fun i hi=>⟨by omega,⟨by omega,by omega⟩,fun e=>(by cases e)⟩
  have S2:∀i:Nat,i < 3→0 < 1∧0≤(i:Int)∧(i:Int) < ((3:Nat):Int):=fun i hi=>⟨by omega,by omega,by omega⟩
  have U:∀x:Rat,SubLv [.frac x] [.int x.num,.int x.den]:=fun x=>subLv_unfrac (SubLv.refl _)
  refine zen Tryz.func229 rfl Tryz.ntmps229 ?_
  intro w0 E0 hc
  repeat' (first|(with_reducible first|refine Wp_seq ?_|refine zr0 hc ?_|refine zm0 hc ?_|refine zwk ?_|refine Wp_block ?_|refine zgo ?_|refine zbn ?_|refine zge Tryz.results229 ?_|refine Sub.refl _|refine allP_nil|refine zoa1 (out':=?_) ?_|refine zca1 (y:=?_) ?_|refine zea1 (eo':=?_) ?_)|(with_reducible refine allP_cons ?_ ?_;focus (first|decide|omega))|(with_reducible first|refine zg2 ?_ ?_|refine zoc c_n ?_ ?_|refine zoc c_t ?_ ?_|refine zbo ?_|refine zg3 ?_ (fun h=>?_) (fun h=>?_)|refine zg4 (fun h=>?_) (fun h=>?_)|fail)|(omega;done))
  refine Wp_loopI (α:=Nat) (fun i=>stOf [(1,.one (.ptr 0 16 0 0)),(2,.one (.ptr 1 4 0 0)),(3,Bo false),(4,.one (.ptr 2 16 0 0)),(5,.one (.ptr 3 4 0 0)),(17,vA p q r),(18,N i)] [(1,⟨4,1,fun _=> [.v (.int .i64 0),.v (.int .i64 0),.v (.int .i64 0),.v (.string (bs []))],false⟩),(2,⟨16,1,fun _=> [.frac p,.frac q,.frac r,.frac e],false⟩),(3,⟨4,1,fun _=> [.v (.int .i64 (part i 0 p.num)),.v (.int .i64 (part i 1 q.num)),.v (.int .i64 (part i 2 r.num)),.v (.string (bs (ratL e)))],false⟩)] 4) (fun i=>i≤3∧(0 < i→okI p.num)∧(1 < i→okI q.num)∧(2 < i→okI r.num)) (fun i=>3 - i) 0 ⟨Nat.zero_le _,fun h=>absurd h (by decide),fun h=>absurd h (by decide),fun h=>absurd h (by decide)⟩ ?_ ?_
  · refine zW1 ?_ <;> repeat' (with_reducible first|exact trivial|refine zan ?_ ?_|refine zal (fun i hi=>?_))
    all_goals exact SubLv.refl _
  rintro i ⟨hi,i1,i2,i3⟩
  have:i=0∨i=1∨i=2∨i=3:=by omega
  rcases this with rfl|rfl|rfl|rfl
  · repeat' (first|(with_reducible first|refine Wp_seq ?_|refine zwk ?_|refine Wp_block ?_|refine zgo ?_|refine zbn ?_|refine zge Tryz.results229 ?_|refine Sub.refl _|refine allP_nil|refine zoa1 (out':=?_) ?_|refine zca1 (y:=?_) ?_|refine zea1 (eo':=?_) ?_)|(with_reducible refine zrs [6] hc ?_ ?_;focus (with_unfolding_all rfl))|(with_reducible refine zrm [6] hc mixed ?_ ?_;focus (with_unfolding_all rfl))|(with_reducible refine allP_cons ?_ ?_;focus (first|decide|omega))|(with_reducible first|refine zg2 ?_ ?_|refine zbo ?_|refine zg3 ?_ (fun h=>?_) (fun h=>?_)|refine zg4 (fun h=>?_) (fun h=>?_)|fail)|((first|omega|assumption|(refine S _ ?_;omega));done))
    refine Wp_weaker (st':=stOf [(1,.one (.ptr 0 16 0 0)),(2,.one (.ptr 1 4 0 0)),(3,Bo false),(4,.one (.ptr 2 16 0 0)),(5,.one (.ptr 3 4 0 0)),(17,vA p q r),(18,N (0:Nat)),(6,N (0:Nat)),(7,.one (.ptr 4 4 0 0))] [(1,⟨4,1,fun _=> [.v (.int .i64 0),.v (.int .i64 0),.v (.int .i64 0),.v (.string (bs []))],false⟩),(2,⟨16,1,fun _=> [.frac p,.frac q,.frac r,.frac e],false⟩),(3,⟨4,1,fun _=> [.v (.int .i64 0),.v (.int .i64 0),.v (.int .i64 0),.v (.string (bs (ratL e)))],false⟩),(4,⟨4,1,fun _=> [.int p.num,.int p.den],false⟩)] 5) ?_ ?_
    · refine zW1 ?_ <;> repeat' (with_reducible first|exact trivial|refine zan ?_ ?_|refine zal (fun i hi=>?_))
      all_goals first|exact SubLv.refl _|exact U _|trace_state
    refine Wp_int 4 [] [.int p.den] p.num rfl rfl (fun b1 b2=>?_) (fun b1=>?_)
    · repeat' (first|(with_reducible first|refine Wp_seq ?_|refine zr0 hc ?_|refine zm0 hc ?_|refine zwk ?_|refine Wp_block ?_|refine zgo ?_|refine zbn ?_|refine zge Tryz.results229 ?_|refine Sub.refl _|refine allP_nil|refine zoa1 (out':=?_) ?_|refine zca1 (y:=?_) ?_|refine zea1 (eo':=?_) ?_)|(with_reducible refine allP_cons ?_ ?_;focus (first|decide|omega))|(with_reducible first|refine zg2 ?_ ?_|refine zoc (c_Small_s _) ?_ ?_|refine zbo ?_|refine zg3 ?_ (fun h=>?_) (fun h=>?_)|refine zg4 (fun h=>?_) (fun h=>?_)|fail)|((first|omega|(refine S2 _ ?_;omega)|(refine nf1 ?_;assumption)|(refine nf2 ?_;assumption));done))
      · refine ⟨1,⟨by decide,(fun _=>⟨by omega,by omega⟩),(fun h=>absurd h (by decide)),(fun h=>absurd h (by decide))⟩,by decide,?_⟩
        refine zW1 ?_ <;> repeat' (with_reducible first|exact trivial|refine zan ?_ ?_|refine zal (fun i hi=>?_))
        all_goals exact SubLv.refl _
    · repeat' (first|(with_reducible first|refine Wp_seq ?_|refine zr0 hc ?_|refine zm0 hc ?_|refine zwk ?_|refine Wp_block ?_|refine zgo ?_|refine zbn ?_|refine zge Tryz.results229 ?_|refine Sub.refl _|refine allP_nil|refine zoa1 (out':=?_) ?_|refine zca1 (y:=?_) ?_|refine zea1 (eo':=?_) ?_)|(with_reducible refine allP_cons ?_ ?_;focus (first|decide|omega))|(with_reducible first|refine zg2 ?_ ?_|refine zoc (c_Small_b _ ?_) ?_ ?_|refine zbo ?_|refine zg3 ?_ (fun h=>?_) (fun h=>?_)|refine zg4 (fun h=>?_) (fun h=>?_)|fail)|((first|omega|(refine S2 _ ?_;omega)|(refine nf1 ?_;assumption)|(refine nf2 ?_;assumption));done))
  · repeat' (first|(with_reducible first|refine Wp_seq ?_|refine zwk ?_|refine Wp_block ?_|refine zgo ?_|refine zbn ?_|refine zge Tryz.results229 ?_|refine Sub.refl _|refine allP_nil|refine zoa1 (out':=?_) ?_|refine zca1 (y:=?_) ?_|refine zea1 (eo':=?_) ?_)|(with_reducible refine zrs [6] hc ?_ ?_;focus (with_unfolding_all rfl))|(with_reducible refine zrm [6] hc mixed ?_ ?_;focus (with_unfolding_all rfl))|(with_reducible refine allP_cons ?_ ?_;focus (first|decide|omega))|(with_reducible first|refine zg2 ?_ ?_|refine zbo ?_|refine zg3 ?_ (fun h=>?_) (fun h=>?_)|refine zg4 (fun h=>?_) (fun h=>?_)|fail)|((first|omega|assumption|(refine S _ ?_;omega));done))
    refine Wp_weaker (st':=stOf [(1,.one (.ptr 0 16 0 0)),(2,.one (.ptr 1 4 0 0)),(3,Bo false),(4,.one (.ptr 2 16 0 0)),(5,.one (.ptr 3 4 0 0)),(17,vA p q r),(18,N (1:Nat)),(6,N (1:Nat)),(7,.one (.ptr 4 4 0 0))] [(1,⟨4,1,fun _=> [.v (.int .i64 0),.v (.int .i64 0),.v (.int .i64 0),.v (.string (bs []))],false⟩),(2,⟨16,1,fun _=> [.frac p,.frac q,.frac r,.frac e],false⟩),(3,⟨4,1,fun _=> [.v (.int .i64 p.num),.v (.int .i64 0),.v (.int .i64 0),.v (.string (bs (ratL e)))],false⟩),(4,⟨4,1,fun _=> [.int q.num,.int q.den],false⟩)] 5) ?_ ?_
    · refine zW1 ?_ <;> repeat' (with_reducible first|exact trivial|refine zan ?_ ?_|refine zal (fun i hi=>?_))
      all_goals first|exact SubLv.refl _|exact U _|trace_state
    refine Wp_int 4 [] [.int q.den] q.num rfl rfl (fun b1 b2=>?_) (fun b1=>?_)
    · repeat' (first|(with_reducible first|refine Wp_seq ?_|refine zr0 hc ?_|refine zm0 hc ?_|refine zwk ?_|refine Wp_block ?_|refine zgo ?_|refine zbn ?_|refine zge Tryz.results229 ?_|refine Sub.refl _|refine allP_nil|refine zoa1 (out':=?_) ?_|refine zca1 (y:=?_) ?_|refine zea1 (eo':=?_) ?_)|(with_reducible refine allP_cons ?_ ?_;focus (first|decide|omega))|(with_reducible first|refine zg2 ?_ ?_|refine zoc (c_Small_s _) ?_ ?_|refine zbo ?_|refine zg3 ?_ (fun h=>?_) (fun h=>?_)|refine zg4 (fun h=>?_) (fun h=>?_)|fail)|((first|omega|(refine S2 _ ?_;omega)|(refine nf1 ?_;assumption)|(refine nf2 ?_;assumption));done))
      · refine ⟨2,⟨by decide,(fun _=>i1 (by omega)),(fun _=>⟨by omega,by omega⟩),(fun h=>absurd h (by decide))⟩,by decide,?_⟩
        refine zW1 ?_ <;> repeat' (with_reducible first|exact trivial|refine zan ?_ ?_|refine zal (fun i hi=>?_))
        all_goals exact SubLv.refl _
    · repeat' (first|(with_reducible first|refine Wp_seq ?_|refine zr0 hc ?_|refine zm0 hc ?_|refine zwk ?_|refine Wp_block ?_|refine zgo ?_|refine zbn ?_|refine zge Tryz.results229 ?_|refine Sub.refl _|refine allP_nil|refine zoa1 (out':=?_) ?_|refine zca1 (y:=?_) ?_|refine zea1 (eo':=?_) ?_)|(with_reducible refine allP_cons ?_ ?_;focus (first|decide|omega))|(with_reducible first|refine zg2 ?_ ?_|refine zoc (c_Small_b _ ?_) ?_ ?_|refine zbo ?_|refine zg3 ?_ (fun h=>?_) (fun h=>?_)|refine zg4 (fun h=>?_) (fun h=>?_)|fail)|((first|omega|(refine S2 _ ?_;omega)|(refine nf1 ?_;assumption)|(refine nf2 ?_;assumption));done))
  · repeat' (first|(with_reducible first|refine Wp_seq ?_|refine zwk ?_|refine Wp_block ?_|refine zgo ?_|refine zbn ?_|refine zge Tryz.results229 ?_|refine Sub.refl _|refine allP_nil|refine zoa1 (out':=?_) ?_|refine zca1 (y:=?_) ?_|refine zea1 (eo':=?_) ?_)|(with_reducible refine zrs [6] hc ?_ ?_;focus (with_unfolding_all rfl))|(with_reducible refine zrm [6] hc mixed ?_ ?_;focus (with_unfolding_all rfl))|(with_reducible refine allP_cons ?_ ?_;focus (first|decide|omega))|(with_reducible first|refine zg2 ?_ ?_|refine zbo ?_|refine zg3 ?_ (fun h=>?_) (fun h=>?_)|refine zg4 (fun h=>?_) (fun h=>?_)|fail)|((first|omega|assumption|(refine S _ ?_;omega));done))
    refine Wp_weaker (st':=stOf [(1,.one (.ptr 0 16 0 0)),(2,.one (.ptr 1 4 0 0)),(3,Bo false),(4,.one (.ptr 2 16 0 0)),(5,.one (.ptr 3 4 0 0)),(17,vA p q r),(18,N (2:Nat)),(6,N (2:Nat)),(7,.one (.ptr 4 4 0 0))] [(1,⟨4,1,fun _=> [.v (.int .i64 0),.v (.int .i64 0),.v (.int .i64 0),.v (.string (bs []))],false⟩),(2,⟨16,1,fun _=> [.frac p,.frac q,.frac r,.frac e],false⟩),(3,⟨4,1,fun _=> [.v (.int .i64 p.num),.v (.int .i64 q.num),.v (.int .i64 0),.v (.string (bs (ratL e)))],false⟩),(4,⟨4,1,fun _=> [.int r.num,.int r.den],false⟩)] 5) ?_ ?_
    · refine zW1 ?_ <;> repeat' (with_reducible first|exact trivial|refine zan ?_ ?_|refine zal (fun i hi=>?_))
      all_goals first|exact SubLv.refl _|exact U _|trace_state
    refine Wp_int 4 [] [.int r.den] r.num rfl rfl (fun b1 b2=>?_) (fun b1=>?_)
    · repeat' (first|(with_reducible first|refine Wp_seq ?_|refine zr0 hc ?_|refine zm0 hc ?_|refine zwk ?_|refine Wp_block ?_|refine zgo ?_|refine zbn ?_|refine zge Tryz.results229 ?_|refine Sub.refl _|refine allP_nil|refine zoa1 (out':=?_) ?_|refine zca1 (y:=?_) ?_|refine zea1 (eo':=?_) ?_)|(with_reducible refine allP_cons ?_ ?_;focus (first|decide|omega))|(with_reducible first|refine zg2 ?_ ?_|refine zoc (c_Small_s _) ?_ ?_|refine zbo ?_|refine zg3 ?_ (fun h=>?_) (fun h=>?_)|refine zg4 (fun h=>?_) (fun h=>?_)|fail)|((first|omega|(refine S2 _ ?_;omega)|(refine nf1 ?_;assumption)|(refine nf2 ?_;assumption));done))
      · refine ⟨3,⟨by decide,(fun _=>i1 (by omega)),(fun _=>i2 (by omega)),(fun _=>⟨by omega,by omega⟩)⟩,by decide,?_⟩
        refine zW1 ?_ <;> repeat' (with_reducible first|exact trivial|refine zan ?_ ?_|refine zal (fun i hi=>?_))
        all_goals exact SubLv.refl _
    · repeat' (first|(with_reducible first|refine Wp_seq ?_|refine zr0 hc ?_|refine zm0 hc ?_|refine zwk ?_|refine Wp_block ?_|refine zgo ?_|refine zbn ?_|refine zge Tryz.results229 ?_|refine Sub.refl _|refine allP_nil|refine zoa1 (out':=?_) ?_|refine zca1 (y:=?_) ?_|refine zea1 (eo':=?_) ?_)|(with_reducible refine allP_cons ?_ ?_;focus (first|decide|omega))|(with_reducible first|refine zg2 ?_ ?_|refine zoc (c_Small_b _ ?_) ?_ ?_|refine zbo ?_|refine zg3 ?_ (fun h=>?_) (fun h=>?_)|refine zg4 (fun h=>?_) (fun h=>?_)|fail)|((first|omega|(refine S2 _ ?_;omega)|(refine nf1 ?_;assumption)|(refine nf2 ?_;assumption));done))
  · repeat' (first|(with_reducible first|refine Wp_seq ?_|refine zr0 hc ?_|refine zm0 hc ?_|refine zwk ?_|refine Wp_block ?_|refine zgo ?_|refine zbn ?_|refine zge Tryz.results229 ?_|refine Sub.refl _|refine allP_nil|refine zoa1 (out':=?_) ?_|refine zca1 (y:=?_) ?_|refine zea1 (eo':=?_) ?_)|(with_reducible refine allP_cons ?_ ?_;focus (first|decide|omega))|(with_reducible first|refine zg2 ?_ ?_|refine zoc c_l ?_ ?_|refine zbo ?_|refine zg3 ?_ (fun h=>?_) (fun h=>?_)|refine zg4 (fun h=>?_) (fun h=>?_)|fail)|(omega;done))
    all_goals exact absurd ⟨i1 (by decide),i2 (by decide),i3 (by decide)⟩ hok
theorem c_giveHalf_no {k:Nat} (hk:k≤1000000) (a b c d p q r e:Rat) (c_n:Ax.Pure Tryz.prog G 261 [hA a b c d] (hA p q r e)) (qe:Q k e) (hok:¬((okI p.num∧okI q.num∧okI r.num)∧bigQ e=false)):Ax.Pure Tryz.prog G 144 [hA a b c d] (.tup [tH 0 0 0 [],N 4]):=by
  by_cases ho:okI p.num∧okI q.num∧okI r.num
  · have he:bigQ e=true:=by
      cases h:bigQ e
      · exact absurd ⟨ho,h⟩ hok
      · rfl
    have c_t:=c_HText hk a b c d p q r e c_n qe ho
    rw [he] at c_t
    refine zen Tryz.func144 rfl Tryz.ntmps144 ?_
    intro w0 E0 hc
    repeat' (first|(with_reducible first|refine Wp_seq ?_|refine zr0 hc ?_|refine zm0 hc ?_|refine zwk ?_|refine Wp_block ?_|refine zgo ?_|refine zbn ?_|refine zge Tryz.results144 ?_|refine Sub.refl _|refine allP_nil|refine zoa1 (out':=?_) ?_|refine zca1 (y:=?_) ?_|refine zea1 (eo':=?_) ?_)|(with_reducible refine allP_cons ?_ ?_;focus (first|decide|omega))|(with_reducible first|refine zg2 ?_ ?_|refine zoc c_t ?_ ?_|refine zbo ?_|refine zg3 ?_ (fun h=>?_) (fun h=>?_)|refine zg4 (fun h=>?_) (fun h=>?_)|fail)|((first|omega|(refine nf1 ?_;assumption)|(refine nf2 ?_;assumption));done))
  · have c_t:=c_HText_no hk a b c d p q r e c_n qe ho
    refine zen Tryz.func144 rfl Tryz.ntmps144 ?_
    intro w0 E0 hc
    repeat' (first|(with_reducible first|refine Wp_seq ?_|refine zr0 hc ?_|refine zm0 hc ?_|refine zwk ?_|refine Wp_block ?_|refine zgo ?_|refine zbn ?_|refine zge Tryz.results144 ?_|refine Sub.refl _|refine allP_nil|refine zoa1 (out':=?_) ?_|refine zca1 (y:=?_) ?_|refine zea1 (eo':=?_) ?_)|(with_reducible refine allP_cons ?_ ?_;focus (first|decide|omega))|(with_reducible first|refine zg2 ?_ ?_|refine zoc c_t ?_ ?_|refine zbo ?_|refine zg3 ?_ (fun h=>?_) (fun h=>?_)|refine zg4 (fun h=>?_) (fun h=>?_)|fail)|((first|omega|(refine nf1 ?_;assumption)|(refine nf2 ?_;assumption));done))
end Go.Proofs
end
section
namespace Go.Proofs
open Go.Ax
structure H4 where
  x:Int
  y:Int
  z:Int
  d:List UInt8
abbrev txH (h:H4):AV:=tH h.x h.y h.z h.d
end Go.Proofs
end
section
set_option maxHeartbeats 4000000
set_option maxRecDepth 100000
namespace Go.Proofs
open Go.Ax
theorem s_Local (o1 o2 o3 x1 x2 x3 y1 y2 y3 z1 z2 z3:Rat) (hF:okF o1 o2 o3 x1 x2 x3 y1 y2 y3 z1 z2 z3) (p1 p2 p3:Rat) (hp:okV p1 p2 p3):Ax.Pure Tryz.prog G 83 [tF (ratL o1) (ratL o2) (ratL o3) (ratL x1) (ratL x2) (ratL x3) (ratL y1) (ratL y2) (ratL y3) (ratL z1) (ratL z2) (ratL z3),tV (ratL p1) (ratL p2) (ratL p3)] (.tup [tV (txl (bigV (dot3 (p1 - o1) (p2 - o2) (p3 - o3) x1 x2 x3 / dot3 x1 x2 x3 x1 x2 x3) (dot3 (p1 - o1) (p2 - o2) (p3 - o3) y1 y2 y3 / dot3 y1 y2 y3 y1 y2 y3) (dot3 (p1 - o1) (p2 - o2) (p3 - o3) z1 z2 z3 / dot3 z1 z2 z3 z1 z2 z3)) (dot3 (p1 - o1) (p2 - o2) (p3 - o3) x1 x2 x3 / dot3 x1 x2 x3 x1 x2 x3)) (txl (bigV (dot3 (p1 - o1) (p2 - o2) (p3 - o3) x1 x2 x3 / dot3 x1 x2 x3 x1 x2 x3) (dot3 (p1 - o1) (p2 - o2) (p3 - o3) y1 y2 y3 / dot3 y1 y2 y3 y1 y2 y3) (dot3 (p1 - o1) (p2 - o2) (p3 - o3) z1 z2 z3 / dot3 z1 z2 z3 z1 z2 z3)) (dot3 (p1 - o1) (p2 - o2) (p3 - o3) y1 y2 y3 / dot3 y1 y2 y3 y1 y2 y3)) (txl (bigV (dot3 (p1 - o1) (p2 - o2) (p3 - o3) x1 x2 x3 / dot3 x1 x2 x3 x1 x2 x3) (dot3 (p1 - o1) (p2 - o2) (p3 - o3) y1 y2 y3 / dot3 y1 y2 y3 y1 y2 y3) (dot3 (p1 - o1) (p2 - o2) (p3 - o3) z1 z2 z3 / dot3 z1 z2 z3 z1 z2 z3)) (dot3 (p1 - o1) (p2 - o2) (p3 - o3) z1 z2 z3 / dot3 z1 z2 z3 z1 z2 z3)),N (exl (bigV (dot3 (p1 - o1) (p2 - o2) (p3 - o3) x1 x2 x3 / dot3 x1 x2 x3 x1 x2 x3) (dot3 (p1 - o1) (p2 - o2) (p3 - o3) y1 y2 y3 / dot3 y1 y2 y3 y1 y2 y3) (dot3 (p1 - o1) (p2 - o2) (p3 - o3) z1 z2 z3 / dot3 z1 z2 z3 z1 z2 z3)))]):=by
  obtain ⟨hx0,hy0,hz0,hor,hdt⟩:=axE_zero hF.2.2.2.2
  have c_c:=s_chkF hF
  have c_F:=s_FromFrame hF
  obtain ⟨⟨qo1,qo2,qo3⟩,⟨qx1,qx2,qx3⟩,⟨qy1,qy2,qy3⟩,⟨qz1,qz2,qz3⟩⟩:(Q 2400 o1∧Q 2400 o2∧Q 2400 o3)∧(Q 2400 x1∧Q 2400 x2∧Q 2400 x3)∧(Q 2400 y1∧Q 2400 y2∧Q 2400 y3)∧Q 2400 z1∧Q 2400 z2∧Q 2400 z3:=⟨okV_Q hF.1,okV_Q hF.2.1,okV_Q hF.2.2.1,okV_Q hF.2.2.2.1⟩
  obtain ⟨qp1,qp2,qp3⟩:=okV_Q hp
  have c_v:=s_chkV hp
  have c_p:=s_VFrom hp
  have c_pl:=c_VCoordinates o1 o2 o3 x1 x2 x3 y1 y2 y3 z1 z2 z3 p1 p2 p3 (dot_pos hx0) (dot_pos hy0) (dot_pos hz0) ⟨rz_of qx1 rfl,rz_of qx2 rfl,rz_of qx3 rfl,rz_of qy1 rfl,rz_of qy2 rfl,rz_of qy3 rfl,rz_of qz1 rfl,rz_of qz2 rfl,rz_of qz3 rfl,rz_of qp1 rfl,rz_of qp2 rfl,rz_of qp3 rfl,rz_of qo1 rfl,rz_of qo2 rfl,rz_of qo3 rfl⟩
  have c_g:=c_giveVec (k:=1000000) (by decide) (dot3 (p1 - o1) (p2 - o2) (p3 - o3) x1 x2 x3 / dot3 x1 x2 x3 x1 x2 x3) (dot3 (p1 - o1) (p2 - o2) (p3 - o3) y1 y2 y3 / dot3 y1 y2 y3 y1 y2 y3) (dot3 (p1 - o1) (p2 - o2) (p3 - o3) z1 z2 z3 / dot3 z1 z2 z3 z1 z2 z3) ⟨Q_of (Q_div (Q_add (Q_add (Q_mul (Q_sub qp1 qo1) qx1) (Q_mul (Q_sub qp2 qo2) qx2)) (Q_mul (Q_sub qp3 qo3) qx3)) (Q_add (Q_add (Q_mul qx1 qx1) (Q_mul qx2 qx2)) (Q_mul qx3 qx3))) rfl,Q_of (Q_div (Q_add (Q_add (Q_mul (Q_sub qp1 qo1) qy1) (Q_mul (Q_sub qp2 qo2) qy2)) (Q_mul (Q_sub qp3 qo3) qy3)) (Q_add (Q_add (Q_mul qy1 qy1) (Q_mul qy2 qy2)) (Q_mul qy3 qy3))) rfl,Q_of (Q_div (Q_add (Q_add (Q_mul (Q_sub qp1 qo1) qz1) (Q_mul (Q_sub qp2 qo2) qz2)) (Q_mul (Q_sub qp3 qo3) qz3)) (Q_add (Q_add (Q_mul qz1 qz1) (Q_mul qz2 qz2)) (Q_mul qz3 qz3))) rfl⟩
  refine zen Tryz.func83 rfl Tryz.ntmps83 ?_
  intro w0 E0 hc
  repeat' (first|refine zR1 hc Tryz.results83 ?_|(with_reducible first|exact trivial|refine zan ?_ ?_|refine zim (fun h=>?_)|refine zoc c_c ?_ ?_|refine zoc c_v ?_ ?_|refine zoc s_first20 ?_ ?_|refine zoc c_F ?_ ?_|refine zoc c_p ?_ ?_|refine zoc c_pl ?_ ?_|refine zoc c_g ?_ ?_|fail)|((first|omega|exact absurd rfl (by assumption)|(refine nf1 ?_;assumption)|(refine nf2 ?_;assumption));done))
end Go.Proofs
end
section
set_option maxHeartbeats 4000000
set_option maxRecDepth 100000
namespace Go.Proofs
open Go.Ax
theorem c_giveH2_no {k kd:Nat} (hk:k≤1000000) (hkd:kd+((3*k+1)+(k+3*k+1))≤1000000) (hkk:kd≤1000000) (a b c d:Rat) (h0:¬(a=0∧b=0∧c=0)) (ha:Q k a) (hb:Q k b) (hc:Q k c) (hd:Q kd d) (h:¬hOk a b c d):Ax.Pure Tryz.prog G 144 [hA a b c d] (.tup [tH 0 0 0 [],N 4]):=
  c_giveHalf_no hkd a b c d _ _ _ _ (c_Normal (k:=max k kd) (by omega) a b c d h0 (Q_mono ha (by omega)) (Q_mono hb (by omega)) (Q_mono hc (by omega)) (Q_mono hd (by omega))) (Q_mul hd (Q_nrm ha hb hc)) h
theorem lh_ne {x1 x2 x3 y1 y2 y3 z1 z2 z3 a b c:Rat} (hd:0 < det3 x1 x2 x3 y1 y2 y3 z1 z2 z3) (h:¬(a=0∧b=0∧c=0)):¬(dot3 a b c x1 x2 x3=0∧dot3 a b c y1 y2 y3=0∧dot3 a b c z1 z2 z3=0):=by
  rintro ⟨h1,h2,h3⟩
  have e1:a*det3 x1 x2 x3 y1 y2 y3 z1 z2 z3=0:=by unfold det3 dot3 at *;grind
  have e2:b*det3 x1 x2 x3 y1 y2 y3 z1 z2 z3=0:=by unfold det3 dot3 at *;grind
  have e3:c*det3 x1 x2 x3 y1 y2 y3 z1 z2 z3=0:=by unfold det3 dot3 at *;grind
  generalize det3 x1 x2 x3 y1 y2 y3 z1 z2 z3=d at *
  apply h
  refine ⟨?_,?_,?_⟩<;> grind
theorem s_PlaceHalf_no (o1 o2 o3 x1 x2 x3 y1 y2 y3 z1 z2 z3:Rat) (hF:okF o1 o2 o3 x1 x2 x3 y1 y2 y3 z1 z2 z3) (m n l:Int) (w:Rat) (hh:okH m n l w) (hk:¬hOk (phN x1 x2 x3 y1 y2 y3 z1 z2 z3 (m:Rat) (n:Rat) (l:Rat)).1 (phN x1 x2 x3 y1 y2 y3 z1 z2 z3 (m:Rat) (n:Rat) (l:Rat)).2.1 (phN x1 x2 x3 y1 y2 y3 z1 z2 z3 (m:Rat) (n:Rat) (l:Rat)).2.2 (w+dot3 (phN x1 x2 x3 y1 y2 y3 z1 z2 z3 (m:Rat) (n:Rat) (l:Rat)).1 (phN x1 x2 x3 y1 y2 y3 z1 z2 z3 (m:Rat) (n:Rat) (l:Rat)).2.1 (phN x1 x2 x3 y1 y2 y3 z1 z2 z3 (m:Rat) (n:Rat) (l:Rat)).2.2 o1 o2 o3)):Ax.Pure Tryz.prog G 28 [tF (ratL o1) (ratL o2) (ratL o3) (ratL x1) (ratL x2) (ratL x3) (ratL y1) (ratL y2) (ratL y3) (ratL z1) (ratL z2) (ratL z3),tH m n l (ratL w)] (.tup [tH 0 0 0 [],N 4]):=by
  obtain ⟨hx0,hy0,hz0,hor,hdt⟩:=axE_zero hF.2.2.2.2
  have c_c:=s_chkF hF
  have c_F:=s_FromFrame hF
  obtain ⟨⟨qo1,qo2,qo3⟩,⟨qx1,qx2,qx3⟩,⟨qy1,qy2,qy3⟩,⟨qz1,qz2,qz3⟩⟩:(Q 2400 o1∧Q 2400 o2∧Q 2400 o3)∧(Q 2400 x1∧Q 2400 x2∧Q 2400 x3)∧(Q 2400 y1∧Q 2400 y2∧Q 2400 y3)∧Q 2400 z1∧Q 2400 z2∧Q 2400 z3:=⟨okV_Q hF.1,okV_Q hF.2.1,okV_Q hF.2.2.1,okV_Q hF.2.2.2.1⟩
  have c_hc:=s_chkH hh
  have c_h:=s_FromHalf hh
  have h0:=okH_ne hh
  have qm:=okI_Q hh.1.1
  have qn:=okI_Q hh.1.2.1
  have ql:=okI_Q hh.1.2.2
  have qw:=bigQ_Q hh.2.2
  have c_ph:=c_VPlaceHalf o1 o2 o3 x1 x2 x3 y1 y2 y3 z1 z2 z3 (m:Rat) (n:Rat) (l:Rat) w (dot_pos hx0) (dot_pos hy0) (dot_pos hz0) ⟨rz_of qo1 rfl,rz_of qo2 rfl,rz_of qo3 rfl,rz_of qx1 rfl,rz_of qx2 rfl,rz_of qx3 rfl,rz_of qy1 rfl,rz_of qy2 rfl,rz_of qy3 rfl,rz_of qz1 rfl,rz_of qz2 rfl,rz_of qz3 rfl,rz_of qm rfl,rz_of qn rfl,rz_of ql rfl,rz_of qw rfl⟩
  have p0:=ph_ne (dot_pos hx0) (dot_pos hy0) (dot_pos hz0) hor h0
  have p1:Q 60000 (phN x1 x2 x3 y1 y2 y3 z1 z2 z3 (m:Rat) (n:Rat) (l:Rat)).1:=Q_of (Q_add (Q_add (Q_mul qx1 (Q_div qm (Q_add (Q_add (Q_mul qx1 qx1) (Q_mul qx2 qx2)) (Q_mul qx3 qx3)))) (Q_mul qy1 (Q_div qn (Q_add (Q_add (Q_mul qy1 qy1) (Q_mul qy2 qy2)) (Q_mul qy3 qy3))))) (Q_mul qz1 (Q_div ql (Q_add (Q_add (Q_mul qz1 qz1) (Q_mul qz2 qz2)) (Q_mul qz3 qz3))))) rfl
  have p2:Q 60000 (phN x1 x2 x3 y1 y2 y3 z1 z2 z3 (m:Rat) (n:Rat) (l:Rat)).2.1:=Q_of (Q_add (Q_add (Q_mul qx2 (Q_div qm (Q_add (Q_add (Q_mul qx1 qx1) (Q_mul qx2 qx2)) (Q_mul qx3 qx3)))) (Q_mul qy2 (Q_div qn (Q_add (Q_add (Q_mul qy1 qy1) (Q_mul qy2 qy2)) (Q_mul qy3 qy3))))) (Q_mul qz2 (Q_div ql (Q_add (Q_add (Q_mul qz1 qz1) (Q_mul qz2 qz2)) (Q_mul qz3 qz3))))) rfl
  have p3:Q 60000 (phN x1 x2 x3 y1 y2 y3 z1 z2 z3 (m:Rat) (n:Rat) (l:Rat)).2.2:=Q_of (Q_add (Q_add (Q_mul qx3 (Q_div qm (Q_add (Q_add (Q_mul qx1 qx1) (Q_mul qx2 qx2)) (Q_mul qx3 qx3)))) (Q_mul qy3 (Q_div qn (Q_add (Q_add (Q_mul qy1 qy1) (Q_mul qy2 qy2)) (Q_mul qy3 qy3))))) (Q_mul qz3 (Q_div ql (Q_add (Q_add (Q_mul qz1 qz1) (Q_mul qz2 qz2)) (Q_mul qz3 qz3))))) rfl
  generalize (phN x1 x2 x3 y1 y2 y3 z1 z2 z3 (m:Rat) (n:Rat) (l:Rat)).1=r1 at *
  generalize (phN x1 x2 x3 y1 y2 y3 z1 z2 z3 (m:Rat) (n:Rat) (l:Rat)).2.1=r2 at *
  generalize (phN x1 x2 x3 y1 y2 y3 z1 z2 z3 (m:Rat) (n:Rat) (l:Rat)).2.2=r3 at *
  have c_g:=c_giveH2_no (k:=60000) (kd:=200000) (by decide) (by decide) (by decide) r1 r2 r3 (w+dot3 r1 r2 r3 o1 o2 o3) p0 p1 p2 p3 (Q_of (Q_add qw (Q_add (Q_add (Q_mul p1 qo1) (Q_mul p2 qo2)) (Q_mul p3 qo3))) rfl) hk
  refine zen Tryz.func28 rfl Tryz.ntmps28 ?_
  intro w0 E0 hc
  repeat' (first|refine zR1 hc Tryz.results28 ?_|(with_reducible first|exact trivial|refine zan ?_ ?_|refine zim (fun h=>?_)|refine zoc c_c ?_ ?_|refine zoc c_hc ?_ ?_|refine zoc s_first20 ?_ ?_|refine zoc c_F ?_ ?_|refine zoc c_h ?_ ?_|refine zoc c_ph ?_ ?_|refine zoc c_g ?_ ?_|fail)|((first|omega|exact absurd rfl (by assumption)|(refine nf1 ?_;assumption)|(refine nf2 ?_;assumption));done))
theorem s_LocalHalf (o1 o2 o3 x1 x2 x3 y1 y2 y3 z1 z2 z3:Rat) (hF:okF o1 o2 o3 x1 x2 x3 y1 y2 y3 z1 z2 z3) (m n l:Int) (w:Rat) (hh:okH m n l w) (hk:hOk (dot3 (m:Rat) (n:Rat) (l:Rat) x1 x2 x3) (dot3 (m:Rat) (n:Rat) (l:Rat) y1 y2 y3) (dot3 (m:Rat) (n:Rat) (l:Rat) z1 z2 z3) (w - dot3 (m:Rat) (n:Rat) (l:Rat) o1 o2 o3)):Ax.Pure Tryz.prog G 29 [tF (ratL o1) (ratL o2) (ratL o3) (ratL x1) (ratL x2) (ratL x3) (ratL y1) (ratL y2) (ratL y3) (ratL z1) (ratL z2) (ratL z3),tH m n l (ratL w)] (.tup [hT (dot3 (m:Rat) (n:Rat) (l:Rat) x1 x2 x3) (dot3 (m:Rat) (n:Rat) (l:Rat) y1 y2 y3) (dot3 (m:Rat) (n:Rat) (l:Rat) z1 z2 z3) (w - dot3 (m:Rat) (n:Rat) (l:Rat) o1 o2 o3),N 0]):=by
  obtain ⟨hx0,hy0,hz0,hor,hdt⟩:=axE_zero hF.2.2.2.2
  have c_c:=s_chkF hF
  have c_F:=s_FromFrame hF
  obtain ⟨⟨qo1,qo2,qo3⟩,⟨qx1,qx2,qx3⟩,⟨qy1,qy2,qy3⟩,⟨qz1,qz2,qz3⟩⟩:(Q 2400 o1∧Q 2400 o2∧Q 2400 o3)∧(Q 2400 x1∧Q 2400 x2∧Q 2400 x3)∧(Q 2400 y1∧Q 2400 y2∧Q 2400 y3)∧Q 2400 z1∧Q 2400 z2∧Q 2400 z3:=⟨okV_Q hF.1,okV_Q hF.2.1,okV_Q hF.2.2.1,okV_Q hF.2.2.2.1⟩
  have c_hc:=s_chkH hh
  have c_h:=s_FromHalf hh
  have h0:=okH_ne hh
  have qm:=okI_Q hh.1.1
  have qn:=okI_Q hh.1.2.1
  have ql:=okI_Q hh.1.2.2
  have qw:=bigQ_Q hh.2.2
  have c_dx:=c_Dot3 (k:=2400) (by decide) (m:Rat) (n:Rat) (l:Rat) x1 x2 x3 qm qn ql qx1 qx2 qx3
  have ddx:Q 20000 (dot3 (m:Rat) (n:Rat) (l:Rat) x1 x2 x3):=Q_of (Q_dot qm qn ql qx1 qx2 qx3) rfl
  have c_dy:=c_Dot3 (k:=2400) (by decide) (m:Rat) (n:Rat) (l:Rat) y1 y2 y3 qm qn ql qy1 qy2 qy3
  have ddy:Q 20000 (dot3 (m:Rat) (n:Rat) (l:Rat) y1 y2 y3):=Q_of (Q_dot qm qn ql qy1 qy2 qy3) rfl
  have c_dz:=c_Dot3 (k:=2400) (by decide) (m:Rat) (n:Rat) (l:Rat) z1 z2 z3 qm qn ql qz1 qz2 qz3
  have ddz:Q 20000 (dot3 (m:Rat) (n:Rat) (l:Rat) z1 z2 z3):=Q_of (Q_dot qm qn ql qz1 qz2 qz3) rfl
  have c_do:=c_Dot3 (k:=2400) (by decide) (m:Rat) (n:Rat) (l:Rat) o1 o2 o3 qm qn ql qo1 qo2 qo3
  have ddo:Q 20000 (dot3 (m:Rat) (n:Rat) (l:Rat) o1 o2 o3):=Q_of (Q_dot qm qn ql qo1 qo2 qo3) rfl
  have c_sb:=c_FSub w (dot3 (m:Rat) (n:Rat) (l:Rat) o1 o2 o3) (rz_of qw rfl) (rz_of ddo rfl)
  have p0:=lh_ne hdt h0
  have c_g:=c_giveH2 (k:=20000) (kd:=200000) (by decide) (by decide) (by decide) (dot3 (m:Rat) (n:Rat) (l:Rat) x1 x2 x3) (dot3 (m:Rat) (n:Rat) (l:Rat) y1 y2 y3) (dot3 (m:Rat) (n:Rat) (l:Rat) z1 z2 z3) _ p0 ddx ddy ddz (Q_of (Q_sub qw ddo) rfl) hk
  refine zen Tryz.func29 rfl Tryz.ntmps29 ?_
  intro w0 E0 hc
  repeat' (first|refine zR1 hc Tryz.results29 ?_|(with_reducible first|exact trivial|refine zan ?_ ?_|refine zim (fun h=>?_)|refine zoc c_c ?_ ?_|refine zoc c_hc ?_ ?_|refine zoc s_first20 ?_ ?_|refine zoc c_F ?_ ?_|refine zoc c_h ?_ ?_|refine zoc c_dx ?_ ?_|refine zoc c_dy ?_ ?_|refine zoc c_dz ?_ ?_|refine zoc c_do ?_ ?_|refine zoc c_sb ?_ ?_|refine zoc c_g ?_ ?_|fail)|((first|omega|exact absurd rfl (by assumption)|(refine nf1 ?_;assumption)|(refine nf2 ?_;assumption));done))
theorem s_LocalHalf_no (o1 o2 o3 x1 x2 x3 y1 y2 y3 z1 z2 z3:Rat) (hF:okF o1 o2 o3 x1 x2 x3 y1 y2 y3 z1 z2 z3) (m n l:Int) (w:Rat) (hh:okH m n l w) (hk:¬hOk (dot3 (m:Rat) (n:Rat) (l:Rat) x1 x2 x3) (dot3 (m:Rat) (n:Rat) (l:Rat) y1 y2 y3) (dot3 (m:Rat) (n:Rat) (l:Rat) z1 z2 z3) (w - dot3 (m:Rat) (n:Rat) (l:Rat) o1 o2 o3)):Ax.Pure Tryz.prog G 29 [tF (ratL o1) (ratL o2) (ratL o3) (ratL x1) (ratL x2) (ratL x3) (ratL y1) (ratL y2) (ratL y3) (ratL z1) (ratL z2) (ratL z3),tH m n l (ratL w)] (.tup [tH 0 0 0 [],N 4]):=by
  obtain ⟨hx0,hy0,hz0,hor,hdt⟩:=axE_zero hF.2.2.2.2
  have c_c:=s_chkF hF
  have c_F:=s_FromFrame hF
  obtain ⟨⟨qo1,qo2,qo3⟩,⟨qx1,qx2,qx3⟩,⟨qy1,qy2,qy3⟩,⟨qz1,qz2,qz3⟩⟩:(Q 2400 o1∧Q 2400 o2∧Q 2400 o3)∧(Q 2400 x1∧Q 2400 x2∧Q 2400 x3)∧(Q 2400 y1∧Q 2400 y2∧Q 2400 y3)∧Q 2400 z1∧Q 2400 z2∧Q 2400 z3:=⟨okV_Q hF.1,okV_Q hF.2.1,okV_Q hF.2.2.1,okV_Q hF.2.2.2.1⟩
  have c_hc:=s_chkH hh
  have c_h:=s_FromHalf hh
  have h0:=okH_ne hh
  have qm:=okI_Q hh.1.1
  have qn:=okI_Q hh.1.2.1
  have ql:=okI_Q hh.1.2.2
  have qw:=bigQ_Q hh.2.2
  have c_dx:=c_Dot3 (k:=2400) (by decide) (m:Rat) (n:Rat) (l:Rat) x1 x2 x3 qm qn ql qx1 qx2 qx3
  have ddx:Q 20000 (dot3 (m:Rat) (n:Rat) (l:Rat) x1 x2 x3):=Q_of (Q_dot qm qn ql qx1 qx2 qx3) rfl
  have c_dy:=c_Dot3 (k:=2400) (by decide) (m:Rat) (n:Rat) (l:Rat) y1 y2 y3 qm qn ql qy1 qy2 qy3
  have ddy:Q 20000 (dot3 (m:Rat) (n:Rat) (l:Rat) y1 y2 y3):=Q_of (Q_dot qm qn ql qy1 qy2 qy3) rfl
  have c_dz:=c_Dot3 (k:=2400) (by decide) (m:Rat) (n:Rat) (l:Rat) z1 z2 z3 qm qn ql qz1 qz2 qz3
  have ddz:Q 20000 (dot3 (m:Rat) (n:Rat) (l:Rat) z1 z2 z3):=Q_of (Q_dot qm qn ql qz1 qz2 qz3) rfl
  have c_do:=c_Dot3 (k:=2400) (by decide) (m:Rat) (n:Rat) (l:Rat) o1 o2 o3 qm qn ql qo1 qo2 qo3
  have ddo:Q 20000 (dot3 (m:Rat) (n:Rat) (l:Rat) o1 o2 o3):=Q_of (Q_dot qm qn ql qo1 qo2 qo3) rfl
  have c_sb:=c_FSub w (dot3 (m:Rat) (n:Rat) (l:Rat) o1 o2 o3) (rz_of qw rfl) (rz_of ddo rfl)
  have p0:=lh_ne hdt h0
  have c_g:=c_giveH2_no (k:=20000) (kd:=200000) (by decide) (by decide) (by decide) (dot3 (m:Rat) (n:Rat) (l:Rat) x1 x2 x3) (dot3 (m:Rat) (n:Rat) (l:Rat) y1 y2 y3) (dot3 (m:Rat) (n:Rat) (l:Rat) z1 z2 z3) _ p0 ddx ddy ddz (Q_of (Q_sub qw ddo) rfl) hk
  refine zen Tryz.func29 rfl Tryz.ntmps29 ?_
  intro w0 E0 hc
  repeat' (first|refine zR1 hc Tryz.results29 ?_|(with_reducible first|exact trivial|refine zan ?_ ?_|refine zim (fun h=>?_)|refine zoc c_c ?_ ?_|refine zoc c_hc ?_ ?_|refine zoc s_first20 ?_ ?_|refine zoc c_F ?_ ?_|refine zoc c_h ?_ ?_|refine zoc c_dx ?_ ?_|refine zoc c_dy ?_ ?_|refine zoc c_dz ?_ ?_|refine zoc c_do ?_ ?_|refine zoc c_sb ?_ ?_|refine zoc c_g ?_ ?_|fail)|((first|omega|exact absurd rfl (by assumption)|(refine nf1 ?_;assumption)|(refine nf2 ?_;assumption));done))
end Go.Proofs
end
