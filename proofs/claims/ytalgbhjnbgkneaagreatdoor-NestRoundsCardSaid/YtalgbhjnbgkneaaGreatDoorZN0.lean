/- Lemmas on the program and its library, part N0. -/
import Derived.Test.YtalgbhjnbgkneaaGreatDoorZAuto2
set_option linter.unusedVariables false
set_option linter.unusedSimpArgs false
section
namespace Go.Proofs
open Go.Ax
abbrev Bo (b:Bool):AV:=.one (.v (.bool b))
abbrev L64 (l:List Int):AV:=.one (.ints .i64 l)
theorem w64 {x:Int} (h:-9223372036854775808≤x) (h':x≤9223372036854775807):IntKind.i64.wrap x=x:=by
  simp only [IntKind.wrap_i64];omega
theorem w64n {n:Nat} (h:n≤9000000000000000000):IntKind.i64.wrap (n:Int)=n:=w64 (by omega) (by omega)
theorem sub_eq {x y:AV} (h:x=y):Ax.Sub x y:=h ▸ Sub.refl x
def badN (n:Int):Bool:=decide (n < 1∨10000 < n)
def badL (l:List Int):Bool:=l.any badN
def errL (l:List Int):Int:=if badL l then 3 else 0
theorem badL_drop {l:List Int} {i:Nat} (h:i < l.length):badL (l.drop i)=(badN (l.getD i 0) || badL (l.drop (i+1))):=by
  rw [List.drop_eq_getElem_cons h,show l.getD i 0=l[i] by simp [List.getD_eq_getElem?_getD,h]]
  rfl
def fidx (p:Int→Bool):Nat→List Int→Int
  | _,[]=>-1
  | i,x :: r=>if p x then i else fidx p (i+1) r
theorem fidx_drop (p:Int→Bool) {l:List Int} {i:Nat} (h:i < l.length):fidx p i (l.drop i)=if p (l.getD i 0) then (i:Int) else fidx p (i+1) (l.drop (i+1)):=by
  rw [List.drop_eq_getElem_cons h]
  simp [fidx,List.getD_eq_getElem?_getD,h]
theorem fidx_any (p:Int→Bool):∀(l:List Int) (i:Nat),decide (0≤fidx p i l)=l.any p
  | [],i=>rfl
  | x :: r, i => by
    unfold fidx
    rw [List.any_cons]
    cases hp:p x with
    | true=>simp
    | false=>simp only [Bool.false_or,Bool.false_eq_true,if_false];exact fidx_any p r (i+1)
def isq:Nat→Nat
  | 0=>0
  | n+1=>if (isq n+1)*(isq n+1)≤n+1 then isq n+1 else isq n
theorem isq_spec:∀n,isq n*isq n≤n∧n < (isq n+1)*(isq n+1)
  | 0=>by decide
  | n + 1 => by
    obtain ⟨h1,h2⟩:=isq_spec n
    unfold isq
    by_cases h:(isq n+1)*(isq n+1)≤n+1
    · rw [if_pos h]
      refine ⟨h,?_⟩
      have:(isq n+1+1)*(isq n+1+1)=(isq n+1)*(isq n+1)+2*isq n+3:=by
        simp only [Nat.add_mul,Nat.mul_add,Nat.one_mul,Nat.mul_one];omega
      omega
    · rw [if_neg h];omega
theorem isq_le {n m:Nat}:m≤isq n↔m*m≤n:=by
  obtain ⟨h1,h2⟩:=isq_spec n
  constructor
  · intro h
    exact Nat.le_trans (Nat.mul_le_mul h h) h1
  · intro h
    rcases Nat.lt_or_ge (isq n) m with g|g
    · exact absurd h2 (Nat.not_lt.2 (Nat.le_trans (Nat.mul_le_mul g g) h))
    · exact g
theorem isq_mono {n m:Nat} (h:n≤m):isq n≤isq m:=isq_le.2 (Nat.le_trans (isq_spec n).1 h)
theorem isq_sq (d:Nat):isq (d*d)=d:=by
  refine Nat.le_antisymm ?_ (isq_le.2 (Nat.le_refl _))
  rcases Nat.lt_or_ge d (isq (d*d)) with h|h
  · have h1:=(isq_spec (d*d)).1
    have h2:(d+1)*(d+1)≤isq (d*d)*isq (d*d):=Nat.mul_le_mul h h
    have:(d+1)*(d+1)=d*d+2*d+1:=by simp only [Nat.add_mul,Nat.mul_add,Nat.one_mul,Nat.mul_one];omega
    omega
  · exact h
def sid (d w:Nat):Nat:=isq (d*d - w*w)
theorem sid_le (d w:Nat):sid d w≤d:=by
  have h:=isq_mono (Nat.sub_le (d*d) (w*w))
  rw [isq_sq] at h
  exact h
theorem sid_iff {d w h:Nat} (h0:0 < h):h≤sid d w↔w*w+h*h≤d*d:=by
  unfold sid
  rw [isq_le]
  have:0 < h*h:=Nat.mul_pos h0 h0
  omega
def rng (n:Nat):List Int:=(List.range n).map fun (i:Nat)=>(i:Int)
theorem rng_len (n:Nat):(rng n).length=n:=by simp [rng]
theorem rng_snoc (n:Nat):rng (n+1)=rng n++ [(n:Int)]:=by simp [rng,List.range_succ]
def bst (g:Int→Int):List Int→Int×Int→Int×Int
  | [],p=>p
  | x :: r,p=>bst g r (if p.2 < g x then (x,g x) else p)
theorem bst_drop (g:Int→Int) {l:List Int} {i:Nat} (h:i < l.length) (p:Int×Int):bst g (l.drop i) p=bst g (l.drop (i+1)) (if p.2 < g (l.getD i 0) then (l.getD i 0,g (l.getD i 0)) else p):=by
  rw [List.drop_eq_getElem_cons h]
  simp [bst,List.getD_eq_getElem?_getD,h]
theorem bst_app (g:Int→Int):∀(a b:List Int) (p:Int×Int),bst g (a++b) p=bst g b (bst g a p)
  | [],_,_=>rfl
  | _ :: a,b,p=>bst_app g a b _
theorem bst_prop (g:Int→Int) (P:Int×Int→Prop):∀(l:List Int) (p:Int×Int),P p→(∀x∈l,∀q,P q→q.2 < g x→P (x,g x))→P (bst g l p)
  | [],_,h,_=>h
  | x :: r, p, h, hs => by
    unfold bst
    refine bst_prop g P r _ ?_ fun y hy=>hs y (List.mem_cons_of_mem _ hy)
    by_cases c:p.2 < g x
    · rw [if_pos c];exact hs x (List.mem_cons_self ..) p h c
    · rw [if_neg c];exact h
end Go.Proofs
end
section
set_option maxHeartbeats 4000000
set_option maxRecDepth 100000
namespace Go.Proofs
open Go.Ax
theorem c_size1 (n:Int):Ax.Pure Tryz.prog G 159 [N n] (Bo (badN n)):=by
  unfold badN
  refine zen Tryz.func159 rfl Tryz.ntmps159 ?_
  intro w0 E0 hc
  repeat' (first|refine zR1 hc Tryz.results159 ?_|(with_reducible first|exact trivial|refine zan ?_ ?_|refine zim (fun h=>?_)|fail)|(omega;done))
  all_goals exact sub_eq (congrArg Bo (by simp <;> omega))
theorem c_nwhen (b:Bool) (e:Int):Ax.Pure Tryz.prog G 96 [Bo b,N e] (N (if b=true then e else 0)):=by
  refine zen Tryz.func96 rfl Tryz.ntmps96 ?_
  intro w0 E0 hc
  cases b
  · repeat' (first|refine zR1 hc Tryz.results96 ?_|(with_reducible first|exact trivial|refine zan ?_ ?_|refine zim (fun h=>?_)|fail)|(omega;done))
    all_goals exact Sub.refl _
  · repeat' (first|refine zR1 hc Tryz.results96 ?_|(with_reducible first|exact trivial|refine zan ?_ ?_|refine zim (fun h=>?_)|fail)|(omega;done))
    all_goals exact Sub.refl _
theorem c_IndexFunc (p:Int→Bool) (f:Nat) (c_f:∀x,Ax.Pure Tryz.prog G f [N x] (Bo (p x))) (l:List Int) (hl:l.length≤1000000):Ax.Pure Tryz.prog G 166 [L64 l,.one (.fn (.func f) [] [])] (N (fidx p 0 l)):=by
  refine zen Tryz.func166 rfl Tryz.ntmps166 ?_
  intro w0 E0 hc
  repeat' (first|refine zR1 hc Tryz.results166 ?_|(with_reducible first|exact trivial|refine zan ?_ ?_|refine zim (fun h=>?_)|fail)|(omega;done))
  refine Wp_loopI (α:=Nat) (fun i=>stOf [(0,L64 l),(1,.one (.fn (.func f) [] [])),(7,N l.length),(8,N i)] [] 0) (fun i=>i≤l.length∧fidx p 0 l=fidx p i (l.drop i)) (fun i=>l.length - i) 0 ⟨Nat.zero_le _,rfl⟩ ?_ ?_
  · refine zW2 ?_ <;> repeat' (with_reducible first|exact trivial|refine zan ?_ ?_|refine zal (fun i hi=>?_))
  · rintro i ⟨h1,h2⟩
    have hd:=fun h:i < l.length=>fidx_drop p h
    repeat' (first|refine zR1 hc Tryz.results166 ?_|(with_reducible first|exact trivial|refine zan ?_ ?_|refine zim (fun h=>?_)|refine zoc (c_f _) ?_ ?_|fail)|(omega;done))
    · have hd':=hd (by omega)
      rw [h,if_pos rfl] at hd'
      exact sub_eq (by rw [h2,hd'])
    · have hd':=hd (by omega)
      rw [h,if_neg (by decide)] at hd'
      refine ⟨i+1,⟨by omega,by rw [h2,hd']⟩,by omega,?_⟩
      refine zW2 ?_ <;> repeat' (with_reducible first|exact trivial|refine zan ?_ ?_|refine zal (fun i hi=>?_))
    · have:l.length≤i:=by omega
      rw [List.drop_eq_nil_of_le this] at h2
      exact sub_eq (by rw [h2];rfl)
theorem c_ContainsFunc (p:Int→Bool) (f:Nat) (c_f:∀x,Ax.Pure Tryz.prog G f [N x] (Bo (p x))) (l:List Int) (hl:l.length≤1000000):Ax.Pure Tryz.prog G 120 [L64 l,.one (.fn (.func f) [] [])] (Bo (l.any p)):=by
  have c_i:=c_IndexFunc p f c_f l hl
  have e:=fidx_any p l 0
  refine zen Tryz.func120 rfl Tryz.ntmps120 ?_
  intro w0 E0 hc
  repeat' (first|refine zR1 hc Tryz.results120 ?_|(with_reducible first|exact trivial|refine zan ?_ ?_|refine zim (fun h=>?_)|refine zoc c_i ?_ ?_|fail)|(omega;done))
  all_goals exact sub_eq (congrArg Bo (by first|exact e|simpa using e))
theorem c_sizes (l:List Int) (hl:l.length≤1000000):Ax.Pure Tryz.prog G 110 [L64 l] (N (errL l)):=by
  have c_c:=c_ContainsFunc badN 159 c_size1 l hl
  refine zen Tryz.func110 rfl Tryz.ntmps110 ?_
  intro w0 E0 hc
  repeat' (first|refine zR1 hc Tryz.results110 ?_|(with_reducible first|exact trivial|refine zan ?_ ?_|refine zim (fun h=>?_)|refine zoc c_c ?_ ?_|refine zoc (c_nwhen _ _) ?_ ?_|fail)|(omega;done))
  all_goals exact sub_eq (by rfl)
theorem c_sizes2 (a b:Int):Ax.Pure Tryz.prog G 110 [.one (.row 1 2 (fun i=> [[Leaf.v (.int .i64 a)],[Leaf.v (.int .i64 b)]].getD i []))] (N (errL [a,b])):=
  pure_args (c_sizes [a,b] (show 2≤1000000 by decide)) ⟨sub_row_list [a,b],trivial⟩ ⟨trivial,trivial⟩
theorem c_root (n:Nat) (h:isq n≤10000):Ax.Pure Tryz.prog G 160 [N n] (N (isq n)):=by
  have hle:=fun m:Nat=>isq_le (n:=n) (m:=m)
  refine zen Tryz.func160 rfl Tryz.ntmps160 ?_
  intro w0 E0 hc
  repeat' (first|refine zR1 hc Tryz.results160 ?_|(with_reducible first|exact trivial|refine zan ?_ ?_|refine zim (fun h=>?_)|fail)|(omega;done))
  refine Wp_loopI (α:=Nat×Nat) (fun p=>stOf [(0,N n),(3,N p.1),(4,N p.2)] [] 0) (fun p=>p.1≤isq n∧isq n < p.2∧p.2≤10001) (fun p=>p.2 - p.1) (0,10001) ⟨Nat.zero_le _,by omega,Nat.le_refl _⟩ ?_ ?_
  · refine zW2 ?_ <;> repeat' (with_reducible first|exact trivial|refine zan ?_ ?_|refine zal (fun i hi=>?_))
  · rintro ⟨a,b⟩ ⟨h1,h2,h3⟩
    dsimp only at h1 h2 h3
    have w1:IntKind.i64.wrap ((a:Int)+b)=((a+b:Nat):Int):=by rw [w64 (by omega) (by omega)];omega
    have w2:IntKind.i64.wrap (((a+b:Nat):Int).tdiv 2)=(((a+b) / 2:Nat):Int):=by rw [Int.tdiv_eq_ediv_of_nonneg (by omega)];exact w64 (by omega) (by omega)
    have m1:(a+b) / 2*((a+b) / 2)≤100020001:=Nat.mul_le_mul (show (a+b) / 2≤10001 by omega) (show (a+b) / 2≤10001 by omega)
    have w3:IntKind.i64.wrap ((((a+b) / 2:Nat):Int)*(((a+b) / 2:Nat):Int))=(((a+b) / 2*((a+b) / 2):Nat):Int):=by rw [←Int.natCast_mul];exact w64n (by omega)
    have w4:IntKind.i64.wrap ((b:Int) - a)=((b - a:Nat):Int):=by rw [w64 (by omega) (by omega)];omega
    have hm:=hle ((a+b) / 2)
    repeat' (first|refine zR1 hc Tryz.results160 ?_|(with_reducible first|exact trivial|refine zan ?_ ?_|refine zim (fun h=>?_)|fail)|((first|decide|omega);done))
    · rename_i g
      rw [w4] at g
      rw [w1,w2,w3] at h
      have h':=hm.2 (by omega)
      refine ⟨((a+b) / 2,b),⟨h',h2,h3⟩,by dsimp only;omega,?_⟩
      refine zW2 ?_ <;> repeat' (with_reducible first|exact trivial|refine zan ?_ ?_|refine zal (fun i hi=>?_))
      rw [w1,w2]
    · rename_i g
      rw [w4] at g
      rw [w1,w2,w3] at h
      have h':=fun x=>h (by have:=hm.1 x;omega)
      refine ⟨(a,(a+b) / 2),⟨h1,by dsimp only;omega,by dsimp only;omega⟩,by dsimp only;omega,?_⟩
      refine zW2 ?_ <;> repeat' (with_reducible first|exact trivial|refine zan ?_ ?_|refine zal (fun i hi=>?_))
      rw [w1,w2]
    · rw [w4] at h
      exact sub_eq (congrArg N (by omega))
theorem c_side (d w:Nat) (hd:d≤10000) (hw:w≤10000):Ax.Pure Tryz.prog G 111 [N d,N w] (N (sid d w)):=by
  have m1:d*d≤100000000:=Nat.mul_le_mul hd hd
  have m2:w*w≤100000000:=Nat.mul_le_mul hw hw
  have w1:IntKind.i64.wrap ((d:Int)*d)=((d*d:Nat):Int):=by rw [←Int.natCast_mul];exact w64n (by omega)
  have w2:IntKind.i64.wrap ((w:Int)*w)=((w*w:Nat):Int):=by rw [←Int.natCast_mul];exact w64n (by omega)
  have w3:IntKind.i64.wrap (((d*d:Nat):Int) - ((w*w:Nat):Int))=((d*d:Nat):Int) - ((w*w:Nat):Int):=w64 (by omega) (by omega)
  have w4:(if (0:Int) < ((d*d:Nat):Int) - ((w*w:Nat):Int) then ((d*d:Nat):Int) - ((w*w:Nat):Int) else 0)=((d*d - w*w:Nat):Int):=by split <;> omega
  have hs:=sid_le d w
  have c_0:=c_root (d*d - w*w) (by unfold sid at hs;omega)
  have c_r:Ax.Pure Tryz.prog G 160 [N (if (0:Int) < IntKind.i64.wrap (IntKind.i64.wrap ((d:Int)*d) - IntKind.i64.wrap ((w:Int)*w)) then IntKind.i64.wrap (IntKind.i64.wrap ((d:Int)*d) - IntKind.i64.wrap ((w:Int)*w)) else 0)] (N (sid d w)):=by
    rw [w1,w2,w3,w4];exact c_0
  refine zen Tryz.func111 rfl Tryz.ntmps111 ?_
  intro w0 E0 hc
  repeat' (first|refine zR1 hc Tryz.results111 ?_|(with_reducible first|exact trivial|refine zan ?_ ?_|refine zim (fun h=>?_)|refine zoc c_r ?_ ?_|fail)|(omega;done))
  all_goals exact Sub.refl _
theorem badN_in {n:Int} (h:badN n=false):1≤n∧n≤10000:=by
  have:=of_decide_eq_false h
  omega
theorem errL_ok {l:List Int} (h:errL l=0):∀x∈l,1≤x∧x≤10000:=by
  intro x hx
  have h1:badL l=false:=by
    unfold errL at h
    cases e:badL l with
    | true=>rw [e] at h;exact absurd h (by decide)
    | false=>rfl
  refine badN_in ?_
  unfold badL at h1
  rw [List.any_eq_false] at h1
  simpa using h1 x hx
theorem errL_or (l:List Int):errL l=0∨errL l=3:=by
  unfold errL
  cases badL l <;> simp
theorem c_numbers (n:Nat) (hn:n≤1000000):Ax.Pure Tryz.prog G 91 [N n] (L64 (rng n)):=by
  have hl:=rng_len
  refine zen Tryz.func91 rfl Tryz.ntmps91 ?_
  intro w0 E0 hc
  repeat' (first|(with_reducible first|refine Wp_seq ?_|refine zr0 hc ?_|refine zm0 hc ?_|refine zwk ?_|refine Wp_block ?_|refine zgo ?_|refine zbn ?_|refine zge Tryz.results91 ?_|refine Sub.refl _|refine allP_nil|refine zoa1 (out':=?_) ?_|refine zca1 (y:=?_) ?_|refine zea1 (eo':=?_) ?_)|(with_reducible refine allP_cons ?_ ?_;focus (first|decide|omega))|(with_reducible first|refine zg2 ?_ ?_|apply zagr hc|apply zanil hc|refine appK_intro (fun cc_ hcc_=>?_)|exact zia1|refine zbo ?_|refine zg3 ?_ (fun h=>?_) (fun h=>?_)|refine zg4 (fun h=>?_) (fun h=>?_)|fail)|(exact Is.refl _)|(omega;done))
  refine Wp_loopI (α:=Nat×Nat) (fun p=>stOf [(0,N n),(3,.one (.gr 0 1 p.1 p.2)),(5,N n),(6,N p.1)] [(0,⟨1,p.2,rowG .i64 (rng p.1),true⟩)] 1)
    (fun p=>p.1≤n∧p.1≤p.2) (fun p=>n - p.1) (0,0) ⟨Nat.zero_le _,Nat.zero_le _⟩ ?_ ?_
  · refine zW2 ?_ <;> repeat' (with_reducible first|exact trivial|refine zan ?_ ?_|refine zal (fun i hi=>?_))
  · rintro ⟨i,cc⟩ ⟨h1,hcc⟩
    dsimp only at h1 hcc
    have hl1:=hl i
    have hl2:=hl (i+1)
    have hs:=rng_snoc i
    repeat' (first|(with_reducible first|refine Wp_seq ?_|refine zwk ?_|refine Wp_block ?_|refine zgo ?_|refine zbn ?_|refine zge Tryz.results91 ?_|refine Sub.refl _|refine allP_nil|refine zoa1 (out':=?_) ?_|refine zca1 (y:=?_) ?_|refine zea1 (eo':=?_) ?_)|(with_reducible refine zrs [7] hc ?_ ?_;focus (with_unfolding_all rfl))|(with_reducible refine zrm [7] hc mixed ?_ ?_;focus (with_unfolding_all rfl))|(with_reducible refine allP_cons ?_ ?_;focus (first|decide|omega))|(with_reducible first|refine zg2 ?_ ?_|apply zagr hc|apply zanil hc|refine appK_intro (fun cc_ hcc_=>?_)|exact zia1|refine zbo ?_|refine zg3 ?_ (fun h=>?_) (fun h=>?_)|refine zg4 (fun h=>?_) (fun h=>?_)|fail)|(exact Is.refl _)|((first|omega|decide);done))
    rotate_left
    · refine Wp_frzG hc 0 3 i cc .i64 (rng i) [] [] 1 [] [] ?_ rfl hl1 hcc rfl rfl (fun _ h=>by cases h) ?_
      · refine zW2 ?_ <;> repeat' (with_reducible first|exact trivial|refine zan ?_ ?_|refine zal (fun i hi=>?_))
      · repeat' (first|refine zR1 hc Tryz.results91 ?_|(with_reducible first|exact trivial|refine zan ?_ ?_|refine zim (fun h=>?_)|fail))
        all_goals exact sub_eq (by rw [show i=n by omega])
    all_goals
      refine ⟨(i+1,cc_),⟨by dsimp only;omega,hcc_⟩,by dsimp only;omega,?_⟩
      refine zW2 ?_ <;> repeat' (with_reducible first|exact trivial|refine zan ?_ ?_|refine zal (fun i hi=>?_))
      rw [hs]
end Go.Proofs
end
section
set_option maxHeartbeats 4000000
set_option maxRecDepth 100000
namespace Go.Proofs
open Go.Ax
theorem r_Size (l:List Int) (hl:l.length≤1000000):Ax.Pure Tryz.prog G 40 [L64 l] (N (errL l)):=by
  unfold errL
  refine zen Tryz.func40 rfl Tryz.ntmps40 ?_
  intro w0 E0 hc
  repeat' (first|refine zR1 hc Tryz.results40 ?_|(with_reducible first|exact trivial|refine zan ?_ ?_|refine zim (fun h=>?_)|fail)|(omega;done))
  refine Wp_loopI (α:=Nat) (fun i=>stOf [(0,L64 l),(3,N i)] [] 0) (fun i=>i≤l.length∧badL l=badL (l.drop i)) (fun i=>l.length - i) 0 ⟨Nat.zero_le _,rfl⟩ ?_ ?_
  · refine zW1 ?_ <;> repeat' (with_reducible first|exact trivial|refine zan ?_ ?_|refine zal (fun i hi=>?_))
  · rintro i ⟨h1,h2⟩
    have hd:=fun h:i < l.length=>badL_drop h
    repeat' (first|refine zR1 hc Tryz.results40 ?_|(with_reducible first|exact trivial|refine zan ?_ ?_|refine zim (fun h=>?_)|fail)|(omega;done))
    · have hd':=hd (by omega)
      rw [show badN (l.getD i 0)=true from decide_eq_true (.inr h)] at hd'
      rw [h2,hd'];exact Sub.refl _
    · rename_i g
      have hd':=hd (by omega)
      rw [show badN (l.getD i 0)=false from decide_eq_false (by omega),Bool.false_or] at hd'
      refine ⟨i+1,⟨by omega,by rw [h2,hd']⟩,by omega,?_⟩
      refine zW1 ?_ <;> repeat' (with_reducible first|exact trivial|refine zan ?_ ?_|refine zal (fun i hi=>?_))
    · have hd':=hd (by omega)
      rw [show badN (l.getD i 0)=true from decide_eq_true (.inl h)] at hd'
      rw [h2,hd'];exact Sub.refl _
    · have:l.length≤i:=by omega
      rw [List.drop_eq_nil_of_le this] at h2
      rw [h2];exact Sub.refl _
theorem l_when (b:Bool) (e:Int):Ax.Pure Tryz.prog G 33 [Bo b,N e] (N (if b=true then e else 0)):=by
  refine zen Tryz.func33 rfl Tryz.ntmps33 ?_
  intro w0 E0 hc
  cases b
  · repeat' (first|refine zR1 hc Tryz.results33 ?_|(with_reducible first|exact trivial|refine zan ?_ ?_|refine zim (fun h=>?_)|fail)|(omega;done))
    all_goals exact Sub.refl _
  · repeat' (first|refine zR1 hc Tryz.results33 ?_|(with_reducible first|exact trivial|refine zan ?_ ?_|refine zim (fun h=>?_)|fail)|(omega;done))
    all_goals exact Sub.refl _
def numB (have' e bad want:Int):Bool:=if bad=0 then decide (e=0∧have'=want) else decide (have'=0∧e=bad)
theorem l_number (x e bad want:Int):Ax.Pure Tryz.prog G 24 [N x,N e,N bad,N want] (Bo (numB x e bad want)):=by
  unfold numB
  refine zen Tryz.func24 rfl Tryz.ntmps24 ?_
  intro w0 E0 hc
  repeat' (first|refine zR1 hc Tryz.results24 ?_|(with_reducible first|exact trivial|refine zan ?_ ?_|refine zim (fun h=>?_)|fail)|(omega;done))
  · rename_i g
    exact sub_eq (congrArg Bo (by rw [if_neg g,show (e == bad)=decide (e=bad) from rfl];simp [h]))
  · rename_i g
    exact sub_eq (congrArg Bo (by rw [if_neg g];simp [h]))
  · rename_i g
    exact sub_eq (congrArg Bo (by rw [if_pos g,show (x == want)=decide (x=want) from rfl];simp [h]))
  · rename_i g
    exact sub_eq (congrArg Bo (by rw [if_pos g];simp [h]))
end Go.Proofs
end
section
set_option maxHeartbeats 4000000
set_option maxRecDepth 100000
namespace Go.Proofs
open Go.Ax
theorem mul_bd {a b A B:Int} (h1:0≤a) (h2:a≤A) (h3:0≤b) (h4:b≤B):0≤a*b∧a*b≤A*B:=
  ⟨Int.mul_nonneg h1 h3,Int.mul_le_mul h2 h4 h3 (by omega)⟩
def hgt (t k n:Int):Int:=n*t+(n - 1)*k
def lowB (t k n i:Int):Int:=2*i*(t+k) - hgt t k n
def farB (t k n i:Int):Int:=mxI (mxI (mxI (lowB t k n i) (-lowB t k n i)) (lowB t k n i+2*t)) (-lowB t k n i - 2*t)
def wid (d:Nat) (t k n i:Int):Nat:=if farB t k n i < d then sid d (farB t k n i).toNat else 0
def bdsL (d:Nat) (t k n:Int) (i:Nat):List Int:=(List.range i).map fun (j:Nat)=>(wid d t k n j:Int)
def bdsOk (d:Nat) (t k n:Int) (i:Nat):Bool:=(List.range i).all fun (j:Nat)=>decide (wid d t k n j≠0)
theorem bdsL_len (d t k n i):(bdsL d t k n i).length=i:=by simp [bdsL]
theorem bdsL_snoc (d t k n i):bdsL d t k n (i+1)=bdsL d t k n i++ [(wid d t k n i:Int)]:=by simp [bdsL,List.range_succ]
theorem bdsOk_snoc (d t k n i):bdsOk d t k n (i+1)=(bdsOk d t k n i && decide (wid d t k n i≠0)):=by simp [bdsOk,List.range_succ]
theorem bdsOk_all {d t k n} {m:Nat}:bdsOk d t k n m=true↔∀j:Nat,j < m→wid d t k n j≠0:=by
  simp [bdsOk,List.all_eq_true]
section
variable (d:Nat) (t k n:Int) (hd:d≤10000) (h1:0≤t) (h2:t≤10000) (h3:0≤k) (h4:k≤10000) (h5:0≤n) (h6:n≤64)
include h1 h2 h3 h4 h5 h6
theorem hgt_w:IntKind.i64.wrap (IntKind.i64.wrap (n*t)+IntKind.i64.wrap (IntKind.i64.wrap (n - 1)*k))=hgt t k n:=by
  have m1:=mul_bd h5 h6 h1 h2
  have m2:=mul_bd (a:=n - 1+1) (by omega) (by omega:n - 1+1≤64) h3 h4
  have m3:(n - 1+1)*k=(n - 1)*k+k:=by rw [Int.add_mul,Int.one_mul]
  unfold hgt
  rw [w64 (x:=n*t) (by omega) (by omega),w64 (x:=n - 1) (by omega) (by omega),w64 (x:=(n - 1)*k) (by omega) (by omega),w64 (by omega) (by omega)]
theorem hgt_bd:-10000≤hgt t k n∧hgt t k n≤1280000:=by
  have m1:=mul_bd h5 h6 h1 h2
  have m2:=mul_bd (a:=n - 1+1) (by omega) (by omega:n - 1+1≤64) h3 h4
  have m3:(n - 1+1)*k=(n - 1)*k+k:=by rw [Int.add_mul,Int.one_mul]
  unfold hgt
  omega
theorem low_bd (i:Int) (h7:0≤i) (h8:i < n):-1280000≤lowB t k n i∧lowB t k n i≤2570000:=by
  have m1:=mul_bd (a:=2*i) (by omega) (by omega:2*i≤128) (by omega:0≤t+k) (by omega:t+k≤20000)
  have m2:=hgt_bd t k n h1 h2 h3 h4 h5 h6
  unfold lowB
  omega
theorem low_w (i:Int) (h7:0≤i) (h8:i < n):IntKind.i64.wrap (IntKind.i64.wrap (IntKind.i64.wrap (2*i)*IntKind.i64.wrap (t+k)) - hgt t k n)=lowB t k n i:=by
  have m1:=mul_bd (a:=2*i) (by omega) (by omega:2*i≤128) (by omega:0≤t+k) (by omega:t+k≤20000)
  have m2:=hgt_bd t k n h1 h2 h3 h4 h5 h6
  unfold lowB
  rw [w64 (x:=2*i) (by omega) (by omega),w64 (x:=t+k) (by omega) (by omega),w64 (x:=2*i*(t+k)) (by omega) (by omega),w64 (by omega) (by omega)]
theorem far_w (i:Int) (h7:0≤i) (h8:i < n):mxI (mxI (mxI (lowB t k n i) (IntKind.i64.wrap (0 - lowB t k n i))) (IntKind.i64.wrap (lowB t k n i+IntKind.i64.wrap (2*t)))) (IntKind.i64.wrap (IntKind.i64.wrap (0 - lowB t k n i) - IntKind.i64.wrap (2*t)))=farB t k n i:=by
  have m1:=low_bd t k n h1 h2 h3 h4 h5 h6 i h7 h8
  unfold farB
  rw [w64 (x:=2*t) (by omega) (by omega),w64 (x:=0 - lowB t k n i) (by omega) (by omega),w64 (x:=lowB t k n i+2*t) (by omega) (by omega),w64 (x:=0 - lowB t k n i - 2*t) (by omega) (by omega),Int.zero_sub]
end
theorem farB_pos (t k n i:Int):0≤farB t k n i:=by
  unfold farB mxI
  repeat' split
  all_goals omega
theorem wid_lt {d:Nat} {t k n i:Int} (h:farB t k n i < d):wid d t k n i=sid d (farB t k n i).toNat:=if_pos h
theorem wid_ge {d:Nat} {t k n i:Int} (h:¬farB t k n i < d):wid d t k n i=0:=if_neg h
theorem wid_le (d:Nat) (t k n i:Int):wid d t k n i≤d:=by
  unfold wid
  split
  · exact sid_le d _
  · exact Nat.zero_le _
theorem bds_no {d:Nat} {t k:Int} {n i:Nat} (h:i < n) (h0:wid d t k n i=0):bdsOk d t k n n=false:=by
  cases e:bdsOk d t k n n with
  | false=>rfl
  | true=>exact absurd h0 (bdsOk_all.1 e i h)
theorem c_boards (d:Nat) (t k:Int) (n:Nat) (hd:d≤10000) (h1:0≤t) (h2:t≤10000) (h3:0≤k) (h4:k≤10000) (h6:n≤64):Ax.Pure Tryz.prog G 102 [N d,N t,N k,N n] (.tup [L64 (if bdsOk d t k n n=true then bdsL d t k n n else []),Bo (bdsOk d t k n n)]):=by
  have hl:=bdsL_len d t k n
  have e1:=hgt_w t k n h1 h2 h3 h4 (by omega) (by omega)
  refine zen Tryz.func102 rfl Tryz.ntmps102 ?_
  intro w0 E0 hc
  repeat' (first|(with_reducible first|refine Wp_seq ?_|refine zr0 hc ?_|refine zm0 hc ?_|refine zwk ?_|refine Wp_block ?_|refine zgo ?_|refine zbn ?_|refine zge Tryz.results102 ?_|refine Sub.refl _|refine allP_nil|refine zoa1 (out':=?_) ?_|refine zca1 (y:=?_) ?_|refine zea1 (eo':=?_) ?_)|(with_reducible refine allP_cons ?_ ?_;focus (first|decide|omega))|(with_reducible first|refine zg2 ?_ ?_|apply zagr hc|apply zanil hc|refine appK_intro (fun cc_ hcc_=>?_)|exact zia1|refine zbo ?_|refine zg3 ?_ (fun h=>?_) (fun h=>?_)|refine zg4 (fun h=>?_) (fun h=>?_)|fail)|(exact Is.refl _)|(omega;done))
  rw [e1]
  refine Wp_loopI (α:=Nat×Nat) (fun p=>stOf [(0,N d),(1,N t),(2,N k),(3,N n),(10,.one (.gr 0 1 p.1 p.2)),(11,N (hgt t k n)),(24,N n),(25,N p.1)] [(0,⟨1,p.2,rowG .i64 (bdsL d t k n p.1),true⟩)] 1)
    (fun p=>p.1≤n∧p.1≤p.2∧bdsOk d t k n p.1=true) (fun p=>n - p.1) (0,0) ⟨Nat.zero_le _,Nat.zero_le _,rfl⟩ ?_ ?_
  · refine zW2 ?_ <;> repeat' (with_reducible first|exact trivial|refine zan ?_ ?_|refine zal (fun i hi=>?_))
  · rintro ⟨i,cc⟩ ⟨g1,hcc,g2⟩
    dsimp only at g1 hcc g2
    have hl1:=hl i
    have hl2:=hl (i+1)
    have hs:=bdsL_snoc d t k n i
    have e2:=fun h=>low_w t k n h1 h2 h3 h4 (by omega) (by omega) (i:Int) (by omega) h
    have e3:=fun h=>far_w t k n h1 h2 h3 h4 (by omega) (by omega) (i:Int) (by omega) h
    have no:=fun (h:i < n) (h0:wid d t k n i=0)=>bds_no h h0
    have c_s:farB t k n i < d→Ax.Pure Tryz.prog G 111 [N d,N (farB t k n i)] (N (wid d t k n i)):=fun h=>by
      have h0:=farB_pos t k n i
      have:=c_side d (farB t k n i).toNat hd (by omega)
      rw [Int.toNat_of_nonneg h0] at this
      rwa [wid_lt h]
    repeat' (first|(with_reducible first|refine Wp_seq ?_|refine zwk ?_|refine Wp_block ?_|refine zgo ?_|refine zbn ?_|refine zge Tryz.results102 ?_|refine Sub.refl _|refine allP_nil|refine zoa1 (out':=?_) ?_|refine zca1 (y:=?_) ?_|refine zea1 (eo':=?_) ?_)|(with_reducible refine zrs [7,15] hc ?_ ?_;focus (with_unfolding_all rfl))|(with_reducible refine zrm [7,15] hc mixed ?_ ?_;focus (with_unfolding_all rfl))|(with_reducible refine allP_cons ?_ ?_;focus (first|decide|omega))|(with_reducible first|refine zg2 ?_ ?_|apply zagr hc|apply zanil hc|refine appK_intro (fun cc_ hcc_=>?_)|exact zia1|refine zbo ?_|refine zg3 ?_ (fun h=>?_) (fun h=>?_)|refine zg4 (fun h=>?_) (fun h=>?_)|fail)|(exact Is.refl _)|((first|omega|decide);done))
    · rw [e2 h]
      repeat' (first|(with_reducible first|refine Wp_seq ?_|refine zwk ?_|refine Wp_block ?_|refine zgo ?_|refine zbn ?_|refine zge Tryz.results102 ?_|refine Sub.refl _|refine allP_nil|refine zoa1 (out':=?_) ?_|refine zca1 (y:=?_) ?_|refine zea1 (eo':=?_) ?_)|(with_reducible refine zrs [8] hc ?_ ?_;focus (with_unfolding_all rfl))|(with_reducible refine zrm [8] hc mixed ?_ ?_;focus (with_unfolding_all rfl))|(with_reducible refine allP_cons ?_ ?_;focus (first|decide|omega))|(with_reducible first|refine zg2 ?_ ?_|apply zagr hc|apply zanil hc|refine appK_intro (fun cc_ hcc_=>?_)|exact zia1|refine zbo ?_|refine zg3 ?_ (fun h=>?_) (fun h=>?_)|refine zg4 (fun h=>?_) (fun h=>?_)|fail)|(exact Is.refl _)|((first|omega|decide);done))
      rw [e3 h]
      repeat' (first|(with_reducible first|refine Wp_seq ?_|refine zr0 hc ?_|refine zm0 hc ?_|refine zwk ?_|refine Wp_block ?_|refine zgo ?_|refine zbn ?_|refine zge Tryz.results102 ?_|refine Sub.refl _|refine allP_nil|refine zoa1 (out':=?_) ?_|refine zca1 (y:=?_) ?_|refine zea1 (eo':=?_) ?_)|(with_reducible refine allP_cons ?_ ?_;focus (first|decide|omega))|(with_reducible first|refine zg2 ?_ ?_|apply zagr hc|apply zanil hc|refine appK_intro (fun cc_ hcc_=>?_)|exact zia1|refine zoc (c_s ?_) ?_ ?_|refine zbo ?_|refine zg3 ?_ (fun h=>?_) (fun h=>?_)|refine zg4 (fun h=>?_) (fun h=>?_)|fail)|(exact Is.refl _)|((first|omega|decide);done))
      · rw [no (by omega) (wid_ge (by omega))];exact sub_tup2 sub_nil (Sub.refl _)
      · rw [no (by omega) (by omega)];exact sub_tup2 sub_nil (Sub.refl _)
      all_goals
        refine ⟨(i+1,cc_),⟨by dsimp only;omega,hcc_,?_⟩,by dsimp only;omega,?_⟩
        · dsimp only
          rw [bdsOk_snoc,g2,Bool.true_and]
          exact decide_eq_true (by omega)
        · refine zW2 ?_ <;> repeat' (with_reducible first|exact trivial|refine zan ?_ ?_|refine zal (fun i hi=>?_))
          rw [hs]
    · have e:i=n:=by omega
      subst e
      refine Wp_frzG hc 0 10 i cc .i64 (bdsL d t k i i) [] [] 1 [] [] ?_ rfl hl1 hcc rfl rfl (fun _ h=>by cases h) ?_
      · refine zW2 ?_ <;> repeat' (with_reducible first|exact trivial|refine zan ?_ ?_|refine zal (fun i hi=>?_))
      · repeat' (first|refine zR1 hc Tryz.results102 ?_|(with_reducible first|exact trivial|refine zan ?_ ?_|refine zim (fun h=>?_)|fail))
        all_goals exact sub_eq (by rw [g2];rfl)
end Go.Proofs
end
section
set_option maxHeartbeats 4000000
set_option maxRecDepth 100000
namespace Go.Proofs
open Go.Ax
abbrev rw2 (a b:Int):AV:=.one (.row 1 2 (fun i=> [[Leaf.v (.int .i64 a)],[Leaf.v (.int .i64 b)]].getD i []))
def fstE:List Int→Int
  | []=>0
  | x :: r=>if x=0 then fstE r else x
theorem fstE_drop {l:List Int} {i:Nat} (h:i < l.length):fstE (l.drop i)=if l.getD i 0=0 then fstE (l.drop (i+1)) else l.getD i 0:=by
  rw [List.drop_eq_getElem_cons h,show l.getD i 0=l[i] by simp [List.getD_eq_getElem?_getD,h]]
  rfl
theorem fstE_two (a b:Int):fstE [a,b]=if a=0 then b else a:=by
  by_cases h:b=0 <;> simp [fstE,h]
theorem c_first (l:List Int) (hl:l.length≤1000000):Ax.Pure Tryz.prog G 95 [L64 l] (N (fstE l)):=by
  refine zen Tryz.func95 rfl Tryz.ntmps95 ?_
  intro w0 E0 hc
  repeat' (first|refine zR1 hc Tryz.results95 ?_|(with_reducible first|exact trivial|refine zan ?_ ?_|refine zim (fun h=>?_)|fail)|(omega;done))
  refine Wp_loopI (α:=Nat) (fun i=>stOf [(5,L64 l),(6,N l.length),(7,N i)] [] 0) (fun i=>i≤l.length∧fstE l=fstE (l.drop i)) (fun i=>l.length - i) 0 ⟨Nat.zero_le _,rfl⟩ ?_ ?_
  · refine zW2 ?_ <;> repeat' (with_reducible first|exact trivial|refine zan ?_ ?_|refine zal (fun i hi=>?_))
  · rintro i ⟨h1,h2⟩
    have hd:=fun h:i < l.length=>fstE_drop h
    repeat' (first|refine zR1 hc Tryz.results95 ?_|(with_reducible first|exact trivial|refine zan ?_ ?_|refine zim (fun h=>?_)|fail)|(omega;done))
    · have hd':=hd (by omega)
      rw [if_neg h] at hd'
      exact sub_eq (by rw [h2,hd'])
    · have hd':=hd (by omega)
      rw [if_pos h] at hd'
      refine ⟨i+1,⟨by omega,by rw [h2,hd']⟩,by omega,?_⟩
      refine zW2 ?_ <;> repeat' (with_reducible first|exact trivial|refine zan ?_ ?_|refine zal (fun i hi=>?_))
    · have:l.length≤i:=by omega
      rw [List.drop_eq_nil_of_le this] at h2
      rw [h2];exact Sub.refl _
theorem c_first2 (a b:Int):Ax.Pure Tryz.prog G 95 [rw2 a b] (N (if a=0 then b else a)):=by
  rw [←fstE_two]
  exact pure_args (c_first [a,b] (show 2≤1000000 by decide)) ⟨sub_row_list [a,b],trivial⟩ ⟨trivial,trivial⟩
theorem l_first (l:List Int) (hl:l.length≤1000000):Ax.Pure Tryz.prog G 36 [L64 l] (N (fstE l)):=by
  refine zen Tryz.func36 rfl Tryz.ntmps36 ?_
  intro w0 E0 hc
  repeat' (first|refine zR1 hc Tryz.results36 ?_|(with_reducible first|exact trivial|refine zan ?_ ?_|refine zim (fun h=>?_)|fail)|(omega;done))
  refine Wp_loopI (α:=Nat) (fun i=>stOf [(0,L64 l),(3,N i)] [] 0) (fun i=>i≤l.length∧fstE l=fstE (l.drop i)) (fun i=>l.length - i) 0 ⟨Nat.zero_le _,rfl⟩ ?_ ?_
  · refine zW2 ?_ <;> repeat' (with_reducible first|exact trivial|refine zan ?_ ?_|refine zal (fun i hi=>?_))
  · rintro i ⟨h1,h2⟩
    have hd:=fun h:i < l.length=>fstE_drop h
    repeat' (first|refine zR1 hc Tryz.results36 ?_|(with_reducible first|exact trivial|refine zan ?_ ?_|refine zim (fun h=>?_)|fail)|(omega;done))
    · have hd':=hd (by omega)
      rw [if_neg h] at hd'
      exact sub_eq (by rw [h2,hd'])
    · have hd':=hd (by omega)
      rw [if_pos h] at hd'
      refine ⟨i+1,⟨by omega,by rw [h2,hd']⟩,by omega,?_⟩
      refine zW2 ?_ <;> repeat' (with_reducible first|exact trivial|refine zan ?_ ?_|refine zal (fun i hi=>?_))
    · have:l.length≤i:=by omega
      rw [List.drop_eq_nil_of_le this] at h2
      rw [h2];exact Sub.refl _
theorem l_first2 (a b:Int):Ax.Pure Tryz.prog G 36 [rw2 a b] (N (if a=0 then b else a)):=by
  rw [←fstE_two]
  exact pure_args (l_first [a,b] (show 2≤1000000 by decide)) ⟨sub_row_list [a,b],trivial⟩ ⟨trivial,trivial⟩
def logE (d t k:Int):Int:=if errL [d,t]=0 then (if k < 0∨10000 < k then 3 else 0) else errL [d,t]
theorem logE_or (d t k:Int):logE d t k=0∨logE d t k=3:=by
  unfold logE
  have:=errL_or [d,t]
  split
  · split
    · exact .inr rfl
    · exact .inl rfl
  · exact this
theorem logE_ok {d t k:Int} (h:logE d t k=0):(1≤d∧d≤10000)∧(1≤t∧t≤10000)∧0≤k∧k≤10000:=by
  unfold logE at h
  split at h
  · rename_i e
    have ho:=errL_ok e
    split at h
    · exact absurd h (by decide)
    · exact ⟨ho d (by simp),ho t (by simp),by omega⟩
  · rename_i e;exact absurd h e
theorem c_checkLog (d t k:Int):Ax.Pure Tryz.prog G 101 [N d,N t,N k] (N (logE d t k)):=by
  unfold logE
  refine zen Tryz.func101 rfl Tryz.ntmps101 ?_
  intro w0 E0 hc
  repeat' (first|refine zR1 hc Tryz.results101 ?_|(with_reducible first|exact trivial|refine zan ?_ ?_|refine zim (fun h=>?_)|refine zoc (c_sizes2 _ _) ?_ ?_|refine zoc (c_nwhen _ _) ?_ ?_|refine zoc (c_first2 _ _) ?_ ?_|fail)|(omega;done))
  all_goals exact sub_eq (by simp [h])
theorem take_sum {l:List Int} {i:Nat} (h:i < l.length):(l.take (i+1)).sum=(l.take i).sum+l.getD i 0:=by
  rw [List.take_succ_eq_append_getElem h,List.sum_append,show l.getD i 0=l[i] by simp [List.getD_eq_getElem?_getD,h]]
  simp
theorem getD_mem {l:List Int} {i:Nat} (h:i < l.length):l.getD i 0∈l:=by
  rw [show l.getD i 0=l[i] by simp [List.getD_eq_getElem?_getD,h]]
  exact List.getElem_mem h
theorem sum_bd {B:Int}:∀{l:List Int},(∀x∈l,0≤x∧x≤B)→0≤l.sum∧l.sum≤l.length*B
  | [],_=>by simp
  | x :: r, h => by
    have h1:=h x (List.mem_cons_self ..)
    have h2:=sum_bd (l:=r) fun y hy=>h y (List.mem_cons_of_mem _ hy)
    rw [List.sum_cons,List.length_cons,Int.natCast_succ,Int.add_mul,Int.one_mul]
    omega
theorem take_bd {B:Int} {l:List Int} (h:∀x∈l,0≤x∧x≤B) (i:Nat) (hi:i≤l.length):0≤(l.take i).sum∧(l.take i).sum≤i*B:=by
  have:=sum_bd (l:=l.take i) fun x hx=>h x (List.mem_of_mem_take hx)
  rwa [List.length_take,Nat.min_eq_left hi] at this
def needL (l:List Int) (k:Int):Int:=(l.map (·+k)).sum
theorem c_need (l:List Int) (k:Int) (hl:l.length≤1000000) (hb:∀x∈l,0≤x∧x≤1000000000) (hk:0≤k∧k≤1000000000):Ax.Pure Tryz.prog G 87 [L64 l,N k] (N (needL l k)):=by
  have hm:∀x∈l.map (·+k),0≤x∧x≤2000000000:=by
    intro x hx
    obtain ⟨y,hy,rfl⟩:=List.mem_map.1 hx
    have:=hb y hy
    show 0≤y+k∧y+k≤2000000000
    omega
  have hL:(l.map (·+k)).length=l.length:=List.length_map _
  have ht:=take_bd hm
  rw [hL] at ht
  have hs:=fun i (h:i < l.length)=>take_sum (l:=l.map (·+k)) (i:=i) (by rw [hL];exact h)
  have hg:∀i,i < l.length→(l.map (·+k)).getD i 0=l.getD i 0+k:=fun i h=>by
    simp [List.getD_eq_getElem?_getD,h]
  have hx:=fun i (h:i < l.length)=>hb _ (getD_mem h)
  unfold needL
  refine zen Tryz.func87 rfl Tryz.ntmps87 ?_
  intro w0 E0 hc
  repeat' (first|refine zR1 hc Tryz.results87 ?_|(with_reducible first|exact trivial|refine zan ?_ ?_|refine zim (fun h=>?_)|fail)|(omega;done))
  refine Wp_loopI (α:=Nat) (fun i=>stOf [(1,N k),(5,N ((l.map (·+k)).take i).sum),(8,L64 l),(9,N l.length),(10,N i)] [] 0) (fun i=>i≤l.length) (fun i=>l.length - i) 0 (Nat.zero_le _) ?_ ?_
  · refine zW2 ?_ <;> repeat' (with_reducible first|exact trivial|refine zan ?_ ?_|refine zal (fun i hi=>?_))
    rfl
  · intro i h1
    have h2:=ht i h1
    have h3:=fun h=>hs i h
    have h4:=fun h=>hg i h
    have h5:=fun h=>hx i h
    repeat' (first|refine zR1 hc Tryz.results87 ?_|(with_reducible first|exact trivial|refine zan ?_ ?_|refine zim (fun h=>?_)|fail)|(omega;done))
    · refine ⟨i+1,by omega,by omega,?_⟩
      have g3:=h3 (by omega)
      have g4:=h4 (by omega)
      have g5:=h5 (by omega)
      refine zW2 ?_ <;> repeat' (with_reducible first|exact trivial|refine zan ?_ ?_|refine zal (fun i hi=>?_))
    · have:i=l.length:=by omega
      rw [this,←hL,List.take_length];exact Sub.refl _
theorem r_sum (l:List Int) (hl:l.length≤1000000) (hb:∀x∈l,0≤x∧x≤1000000000):Ax.Pure Tryz.prog G 89 [L64 l] (N l.sum):=by
  have ht:=take_bd hb
  have hs:=fun i (h:i < l.length)=>take_sum h
  have hx:=fun i (h:i < l.length)=>hb _ (getD_mem h)
  refine zen Tryz.func89 rfl Tryz.ntmps89 ?_
  intro w0 E0 hc
  repeat' (first|refine zR1 hc Tryz.results89 ?_|(with_reducible first|exact trivial|refine zan ?_ ?_|refine zim (fun h=>?_)|fail)|(omega;done))
  refine Wp_loopI (α:=Nat) (fun i=>stOf [(0,L64 l),(3,N (l.take i).sum),(4,N i)] [] 0) (fun i=>i≤l.length) (fun i=>l.length - i) 0 (Nat.zero_le _) ?_ ?_
  · refine zW2 ?_ <;> repeat' (with_reducible first|exact trivial|refine zan ?_ ?_|refine zal (fun i hi=>?_))
    rfl
  · intro i h1
    have h2:=ht i h1
    have h3:=fun h=>hs i h
    have h5:=fun h=>hx i h
    repeat' (first|refine zR1 hc Tryz.results89 ?_|(with_reducible first|exact trivial|refine zan ?_ ?_|refine zim (fun h=>?_)|fail)|(omega;done))
    · refine ⟨i+1,by omega,by omega,?_⟩
      have g3:=h3 (by omega)
      have g5:=h5 (by omega)
      refine zW2 ?_ <;> repeat' (with_reducible first|exact trivial|refine zan ?_ ?_|refine zal (fun i hi=>?_))
    · have:i=l.length:=by omega
      rw [this,List.take_length];exact Sub.refl _
end Go.Proofs
end
