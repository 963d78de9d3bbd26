/- Lemmas on the program and its library, part N0. -/
import Derived.Test.YtalgbhjnbgkneaaGreatDoorZAuto2
set_option linter.unusedVariables false
set_option linter.unusedSimpArgs false
section
namespace Go.Proofs
open Go.Ax
abbrev Bo (b:Bool):AV:=.one (.v (.bool b))
abbrev L64 (l:List Int):AV:=.one (.ints .i64 l)
theorem w64 {x:Int} (h:-9223372036854775808≤x) (h':x≤9223372036854775807):IntKind.i64.wrap x=x:=by
  simp only [IntKind.wrap_i64];omega
theorem w64n {n:Nat} (h:n≤9000000000000000000):IntKind.i64.wrap (n:Int)=n:=w64 (by omega) (by omega)
theorem sub_eq {x y:AV} (h:x=y):Ax.Sub x y:=h ▸ Sub.refl x
def badN (n:Int):Bool:=decide (n < 1∨10000 < n)
def badL (l:List Int):Bool:=l.any badN
def errL (l:List Int):Int:=if badL l then 3 else 0
theorem badL_drop {l:List Int} {i:Nat} (h:i < l.length):badL (l.drop i)=(badN (l.getD i 0) || badL (l.drop (i+1))):=by
  rw [List.drop_eq_getElem_cons h,show l.getD i 0=l[i] by simp [List.getD_eq_getElem?_getD,h]]
  rfl
def fidx (p:Int→Bool):Nat→List Int→Int
  | _,[]=>-1
  | i,x :: r=>if p x then i else fidx p (i+1) r
theorem fidx_drop (p:Int→Bool) {l:List Int} {i:Nat} (h:i < l.length):fidx p i (l.drop i)=if p (l.getD i 0) then (i:Int) else fidx p (i+1) (l.drop (i+1)):=by
  rw [List.drop_eq_getElem_cons h]
  simp [fidx,List.getD_eq_getElem?_getD,h]
theorem fidx_any (p:Int→Bool):∀(l:List Int) (i:Nat),decide (0≤fidx p i l)=l.any p
  | [],i=>rfl
  | x :: r, i => by
    unfold fidx
    rw [List.any_cons]
    cases hp:p x with
    | true=>simp
    | false=>simp only [Bool.false_or,Bool.false_eq_true,if_false];exact fidx_any p r (i+1)
def isq:Nat→Nat
  | 0=>0
  | n+1=>if (isq n+1)*(isq n+1)≤n+1 then isq n+1 else isq n
theorem isq_spec:∀n,isq n*isq n≤n∧n < (isq n+1)*(isq n+1)
  | 0=>by decide
  | n + 1 => by
    obtain ⟨h1,h2⟩:=isq_spec n
    unfold isq
    by_cases h:(isq n+1)*(isq n+1)≤n+1
    · rw [if_pos h]
      refine ⟨h,?_⟩
      have:(isq n+1+1)*(isq n+1+1)=(isq n+1)*(isq n+1)+2*isq n+3:=by
        simp only [Nat.add_mul,Nat.mul_add,Nat.one_mul,Nat.mul_one];omega
      omega
    · rw [if_neg h];omega
theorem isq_le {n m:Nat}:m≤isq n↔m*m≤n:=by
  obtain ⟨h1,h2⟩:=isq_spec n
  constructor
  · intro h
    exact Nat.le_trans (Nat.mul_le_mul h h) h1
  · intro h
    rcases Nat.lt_or_ge (isq n) m with g|g
    · exact absurd h2 (Nat.not_lt.2 (Nat.le_trans (Nat.mul_le_mul g g) h))
    · exact g
theorem isq_mono {n m:Nat} (h:n≤m):isq n≤isq m:=isq_le.2 (Nat.le_trans (isq_spec n).1 h)
theorem isq_sq (d:Nat):isq (d*d)=d:=by
  refine Nat.le_antisymm ?_ (isq_le.2 (Nat.le_refl _))
  rcases Nat.lt_or_ge d (isq (d*d)) with h|h
  · have h1:=(isq_spec (d*d)).1
    have h2:(d+1)*(d+1)≤isq (d*d)*isq (d*d):=Nat.mul_le_mul h h
    have:(d+1)*(d+1)=d*d+2*d+1:=by simp only [Nat.add_mul,Nat.mul_add,Nat.one_mul,Nat.mul_one];omega
    omega
  · exact h
def sid (d w:Nat):Nat:=isq (d*d - w*w)
theorem sid_le (d w:Nat):sid d w≤d:=by
  have h:=isq_mono (Nat.sub_le (d*d) (w*w))
  rw [isq_sq] at h
  exact h
theorem sid_iff {d w h:Nat} (h0:0 < h):h≤sid d w↔w*w+h*h≤d*d:=by
  unfold sid
  rw [isq_le]
  have:0 < h*h:=Nat.mul_pos h0 h0
  omega
def rng (n:Nat):List Int:=(List.range n).map fun (i:Nat)=>(i:Int)
theorem rng_len (n:Nat):(rng n).length=n:=by simp [rng]
theorem rng_snoc (n:Nat):rng (n+1)=rng n++ [(n:Int)]:=by simp [rng,List.range_succ]
def bst (g:Int→Int):List Int→Int×Int→Int×Int
  | [],p=>p
  | x :: r,p=>bst g r (if p.2 < g x then (x,g x) else p)
theorem bst_drop (g:Int→Int) {l:List Int} {i:Nat} (h:i < l.length) (p:Int×Int):bst g (l.drop i) p=bst g (l.drop (i+1)) (if p.2 < g (l.getD i 0) then (l.getD i 0,g (l.getD i 0)) else p):=by
  rw [List.drop_eq_getElem_cons h]
  simp [bst,List.getD_eq_getElem?_getD,h]
theorem bst_app (g:Int→Int):∀(a b:List Int) (p:Int×Int),bst g (a++b) p=bst g b (bst g a p)
  | [],_,_=>rfl
  | _ :: a,b,p=>bst_app g a b _
theorem bst_prop (g:Int→Int) (P:Int×Int→Prop):∀(l:List Int) (p:Int×Int),P p→(∀x∈l,∀q,P q→q.2 < g x→P (x,g x))→P (bst g l p)
  | [],_,h,_=>h
  | x :: r, p, h, hs => by
    unfold bst
    refine bst_prop g P r _ ?_ fun y hy=>hs y (List.mem_cons_of_mem _ hy)
    by_cases c:p.2 < g x
    · rw [if_pos c];exact hs x (List.mem_cons_self ..) p h c
    · rw [if_neg c];exact h
end Go.Proofs
end
section
set_option maxHeartbeats 4000000
set_option maxRecDepth 100000
namespace Go.Proofs
open Go.Ax
theorem c_size1 (n:Int):Ax.Pure Tryz.prog G 159 [N n] (Bo (badN n)):=by
  unfold badN
  refine zen Tryz.func159 rfl Tryz.ntmps159 ?_
  intro w0 E0 hc
  repeat' (first|refine zR1 hc Tryz.results159 ?_|(with_reducible first|exact trivial|refine zan ?_ ?_|refine zim (fun h=>?_)|fail)|(omega;done))
  all_goals exact sub_eq (congrArg Bo (by simp <;> omega))
theorem c_nwhen (b:Bool) (e:Int):Ax.Pure Tryz.prog G 96 [Bo b,N e] (N (if b=true then e else 0)):=by
  refine zen Tryz.func96 rfl Tryz.ntmps96 ?_
  intro w0 E0 hc
  cases b
  · repeat' (first|refine zR1 hc Tryz.results96 ?_|(with_reducible first|exact trivial|refine zan ?_ ?_|refine zim (fun h=>?_)|fail)|(omega;done))
    all_goals exact Sub.refl _
  · repeat' (first|refine zR1 hc Tryz.results96 ?_|(with_reducible first|exact trivial|refine zan ?_ ?_|refine zim (fun h=>?_)|fail)|(omega;done))
    all_goals exact Sub.refl _
theorem c_IndexFunc (p:Int→Bool) (f:Nat) (c_f:∀x,Ax.Pure Tryz.prog G f [N x] (Bo (p x))) (l:List Int) (hl:l.length≤1000000):Ax.Pure Tryz.prog G 166 [L64 l,.one (.fn (.func f) [] [])] (N (fidx p 0 l)):=by
  refine zen Tryz.func166 rfl Tryz.ntmps166 ?_
  intro w0 E0 hc
  repeat' (first|refine zR1 hc Tryz.results166 ?_|(with_reducible first|exact trivial|refine zan ?_ ?_|refine zim (fun h=>?_)|fail)|(omega;done))
  refine Wp_loopI (α:=Nat) (fun i=>stOf [(0,L64 l),(1,.one (.fn (.func f) [] [])),(7,N l.length),(8,N i)] [] 0) (fun i=>i≤l.length∧fidx p 0 l=fidx p i (l.drop i)) (fun i=>l.length - i) 0 ⟨Nat.zero_le _,rfl⟩ ?_ ?_
  · refine zW2 ?_ <;> repeat' (with_reducible first|exact trivial|refine zan ?_ ?_|refine zal (fun i hi=>?_))
  · rintro i ⟨h1,h2⟩
    have hd:=fun h:i < l.length=>fidx_drop p h
    repeat' (first|refine zR1 hc Tryz.results166 ?_|(with_reducible first|exact trivial|refine zan ?_ ?_|refine zim (fun h=>?_)|refine zoc (c_f _) ?_ ?_|fail)|(omega;done))
    · have hd':=hd (by omega)
      rw [h,if_pos rfl] at hd'
      exact sub_eq (by rw [h2,hd'])
    · have hd':=hd (by omega)
      rw [h,if_neg (by decide)] at hd'
      refine ⟨i+1,⟨by omega,by rw [h2,hd']⟩,by omega,?_⟩
      refine zW2 ?_ <;> repeat' (with_reducible first|exact trivial|refine zan ?_ ?_|refine zal (fun i hi=>?_))
    · have:l.length≤i:=by omega
      rw [List.drop_eq_nil_of_le this] at h2
      exact sub_eq (by rw [h2];rfl)
theorem c_ContainsFunc (p:Int→Bool) (f:Nat) (c_f:∀x,Ax.Pure Tryz.prog G f [N x] (Bo (p x))) (l:List Int) (hl:l.length≤1000000):Ax.Pure Tryz.prog G 120 [L64 l,.one (.fn (.func f) [] [])] (Bo (l.any p)):=by
  have c_i:=c_IndexFunc p f c_f l hl
  have e:=fidx_any p l 0
  refine zen Tryz.func120 rfl Tryz.ntmps120 ?_
  intro w0 E0 hc
  repeat' (first|refine zR1 hc Tryz.results120 ?_|(with_reducible first|exact trivial|refine zan ?_ ?_|refine zim (fun h=>?_)|refine zoc c_i ?_ ?_|fail)|(omega;done))
  all_goals exact sub_eq (congrArg Bo (by first|exact e|simpa using e))
theorem c_sizes (l:List Int) (hl:l.length≤1000000):Ax.Pure Tryz.prog G 110 [L64 l] (N (errL l)):=by
  have c_c:=c_ContainsFunc badN 159 c_size1 l hl
  refine zen Tryz.func110 rfl Tryz.ntmps110 ?_
  intro w0 E0 hc
  repeat' (first|refine zR1 hc Tryz.results110 ?_|(with_reducible first|exact trivial|refine zan ?_ ?_|refine zim (fun h=>?_)|refine zoc c_c ?_ ?_|refine zoc (c_nwhen _ _) ?_ ?_|fail)|(omega;done))
  all_goals exact sub_eq (by rfl)
theorem c_sizes1 (a:Int):Ax.Pure Tryz.prog G 110 [.one (.row 1 1 (fun i=> [[Leaf.v (.int .i64 a)]].getD i []))] (N (errL [a])):=
  pure_args (c_sizes [a] (show 1≤1000000 by decide)) ⟨sub_row_list [a],trivial⟩ ⟨trivial,trivial⟩
theorem c_sizes2 (a b:Int):Ax.Pure Tryz.prog G 110 [.one (.row 1 2 (fun i=> [[Leaf.v (.int .i64 a)],[Leaf.v (.int .i64 b)]].getD i []))] (N (errL [a,b])):=
  pure_args (c_sizes [a,b] (show 2≤1000000 by decide)) ⟨sub_row_list [a,b],trivial⟩ ⟨trivial,trivial⟩
theorem c_sizes3 (a b c:Int):Ax.Pure Tryz.prog G 110 [.one (.row 1 3 (fun i=> [[Leaf.v (.int .i64 a)],[Leaf.v (.int .i64 b)],[Leaf.v (.int .i64 c)]].getD i []))] (N (errL [a,b,c])):=
  pure_args (c_sizes [a,b,c] (show 3≤1000000 by decide)) ⟨sub_row_list [a,b,c],trivial⟩ ⟨trivial,trivial⟩
theorem c_root (n:Nat) (h:isq n≤10000):Ax.Pure Tryz.prog G 160 [N n] (N (isq n)):=by
  have hle:=fun m:Nat=>isq_le (n:=n) (m:=m)
  refine zen Tryz.func160 rfl Tryz.ntmps160 ?_
  intro w0 E0 hc
  repeat' (first|refine zR1 hc Tryz.results160 ?_|(with_reducible first|exact trivial|refine zan ?_ ?_|refine zim (fun h=>?_)|fail)|(omega;done))
  refine Wp_loopI (α:=Nat×Nat) (fun p=>stOf [(0,N n),(3,N p.1),(4,N p.2)] [] 0) (fun p=>p.1≤isq n∧isq n < p.2∧p.2≤10001) (fun p=>p.2 - p.1) (0,10001) ⟨Nat.zero_le _,by omega,Nat.le_refl _⟩ ?_ ?_
  · refine zW2 ?_ <;> repeat' (with_reducible first|exact trivial|refine zan ?_ ?_|refine zal (fun i hi=>?_))
  · rintro ⟨a,b⟩ ⟨h1,h2,h3⟩
    dsimp only at h1 h2 h3
    have w1:IntKind.i64.wrap ((a:Int)+b)=((a+b:Nat):Int):=by rw [w64 (by omega) (by omega)];omega
    have w2:IntKind.i64.wrap (((a+b:Nat):Int).tdiv 2)=(((a+b) / 2:Nat):Int):=by rw [Int.tdiv_eq_ediv_of_nonneg (by omega)];exact w64 (by omega) (by omega)
    have m1:(a+b) / 2*((a+b) / 2)≤100020001:=Nat.mul_le_mul (show (a+b) / 2≤10001 by omega) (show (a+b) / 2≤10001 by omega)
    have w3:IntKind.i64.wrap ((((a+b) / 2:Nat):Int)*(((a+b) / 2:Nat):Int))=(((a+b) / 2*((a+b) / 2):Nat):Int):=by rw [←Int.natCast_mul];exact w64n (by omega)
    have w4:IntKind.i64.wrap ((b:Int) - a)=((b - a:Nat):Int):=by rw [w64 (by omega) (by omega)];omega
    have hm:=hle ((a+b) / 2)
    repeat' (first|refine zR1 hc Tryz.results160 ?_|(with_reducible first|exact trivial|refine zan ?_ ?_|refine zim (fun h=>?_)|fail)|((first|decide|omega);done))
    · rename_i g
      rw [w4] at g
      rw [w1,w2,w3] at h
      have h':=hm.2 (by omega)
      refine ⟨((a+b) / 2,b),⟨h',h2,h3⟩,by dsimp only;omega,?_⟩
      refine zW2 ?_ <;> repeat' (with_reducible first|exact trivial|refine zan ?_ ?_|refine zal (fun i hi=>?_))
      rw [w1,w2]
    · rename_i g
      rw [w4] at g
      rw [w1,w2,w3] at h
      have h':=fun x=>h (by have:=hm.1 x;omega)
      refine ⟨(a,(a+b) / 2),⟨h1,by dsimp only;omega,by dsimp only;omega⟩,by dsimp only;omega,?_⟩
      refine zW2 ?_ <;> repeat' (with_reducible first|exact trivial|refine zan ?_ ?_|refine zal (fun i hi=>?_))
      rw [w1,w2]
    · rw [w4] at h
      exact sub_eq (congrArg N (by omega))
theorem c_side (d w:Nat) (hd:d≤10000) (hw:w≤10000):Ax.Pure Tryz.prog G 111 [N d,N w] (N (sid d w)):=by
  have m1:d*d≤100000000:=Nat.mul_le_mul hd hd
  have m2:w*w≤100000000:=Nat.mul_le_mul hw hw
  have w1:IntKind.i64.wrap ((d:Int)*d)=((d*d:Nat):Int):=by rw [←Int.natCast_mul];exact w64n (by omega)
  have w2:IntKind.i64.wrap ((w:Int)*w)=((w*w:Nat):Int):=by rw [←Int.natCast_mul];exact w64n (by omega)
  have w3:IntKind.i64.wrap (((d*d:Nat):Int) - ((w*w:Nat):Int))=((d*d:Nat):Int) - ((w*w:Nat):Int):=w64 (by omega) (by omega)
  have w4:(if (0:Int) < ((d*d:Nat):Int) - ((w*w:Nat):Int) then ((d*d:Nat):Int) - ((w*w:Nat):Int) else 0)=((d*d - w*w:Nat):Int):=by split <;> omega
  have hs:=sid_le d w
  have c_0:=c_root (d*d - w*w) (by unfold sid at hs;omega)
  have c_r:Ax.Pure Tryz.prog G 160 [N (if (0:Int) < IntKind.i64.wrap (IntKind.i64.wrap ((d:Int)*d) - IntKind.i64.wrap ((w:Int)*w)) then IntKind.i64.wrap (IntKind.i64.wrap ((d:Int)*d) - IntKind.i64.wrap ((w:Int)*w)) else 0)] (N (sid d w)):=by
    rw [w1,w2,w3,w4];exact c_0
  refine zen Tryz.func111 rfl Tryz.ntmps111 ?_
  intro w0 E0 hc
  repeat' (first|refine zR1 hc Tryz.results111 ?_|(with_reducible first|exact trivial|refine zan ?_ ?_|refine zim (fun h=>?_)|refine zoc c_r ?_ ?_|fail)|(omega;done))
  all_goals exact Sub.refl _
def fitB (w h d:Int):Bool:=decide (w*w+h*h≤d*d)
theorem badN_in {n:Int} (h:badN n=false):1≤n∧n≤10000:=by
  have:=of_decide_eq_false h
  omega
theorem sq_in {n:Int} (h:1≤n∧n≤10000):0≤n*n∧n*n≤100000000:=
  ⟨Int.mul_nonneg (by omega) (by omega),Int.mul_le_mul h.2 h.2 (by omega) (by omega)⟩
theorem errL_ok {l:List Int} (h:errL l=0):∀x∈l,1≤x∧x≤10000:=by
  intro x hx
  have h1:badL l=false:=by
    unfold errL at h
    cases e:badL l with
    | true=>rw [e] at h;exact absurd h (by decide)
    | false=>rfl
  refine badN_in ?_
  unfold badL at h1
  rw [List.any_eq_false] at h1
  simpa using h1 x hx
theorem errL_or (l:List Int):errL l=0∨errL l=3:=by
  unfold errL
  cases badL l <;> simp
theorem c_Fits (w h d:Int):Ax.Pure Tryz.prog G 49 [N w,N h,N d] (.tup [Bo (if errL [w,h,d]=0 then fitB w h d else false),N (errL [w,h,d])]):=by
  have c_s:=c_sizes3 w h d
  have hr:errL [w,h,d]=0→IntKind.i64.wrap (IntKind.i64.wrap (w*w)+IntKind.i64.wrap (h*h))=w*w+h*h∧IntKind.i64.wrap (d*d)=d*d:=fun e=>by
    have ho:=errL_ok e
    have h1:=sq_in (ho w (by simp))
    have h2:=sq_in (ho h (by simp))
    have h3:=sq_in (ho d (by simp))
    rw [w64 (x:=w*w) (by omega) (by omega),w64 (x:=h*h) (by omega) (by omega),w64 (x:=d*d) (by omega) (by omega),w64 (by omega) (by omega)]
    exact ⟨rfl,rfl⟩
  refine zen Tryz.func49 rfl Tryz.ntmps49 ?_
  intro w0 E0 hc
  repeat' (first|refine zR1 hc Tryz.results49 ?_|(with_reducible first|exact trivial|refine zan ?_ ?_|refine zim (fun h=>?_)|refine zoc c_s ?_ ?_|fail)|(omega;done))
  · rw [if_neg h];exact Sub.refl _
  · obtain ⟨e1,e2⟩:=hr h
    rw [if_pos h,e1,e2,h];exact Sub.refl _
theorem c_Highest (d w:Int):Ax.Pure Tryz.prog G 50 [N d,N w] (.tup [N (if errL [d,w]=0 then ((sid d.toNat w.toNat:Nat):Int) else 0),N (if errL [d,w]=0 then (if sid d.toNat w.toNat=0 then 7 else 0) else 3)]):=by
  have c_s:=c_sizes2 d w
  have c_h:errL [d,w]=0→Ax.Pure Tryz.prog G 111 [N d,N w] (N (sid d.toNat w.toNat)):=fun e=>by
    have ho:=errL_ok e
    have h1:=ho d (by simp)
    have h2:=ho w (by simp)
    have:=c_side d.toNat w.toNat (by omega) (by omega)
    rwa [Int.toNat_of_nonneg (by omega),Int.toNat_of_nonneg (by omega)] at this
  have hw:=errL_or [d,w]
  refine zen Tryz.func50 rfl Tryz.ntmps50 ?_
  intro w0 E0 hc
  repeat' (first|refine zR1 hc Tryz.results50 ?_|(with_reducible first|exact trivial|refine zan ?_ ?_|refine zim (fun h=>?_)|refine zoc c_s ?_ ?_|refine zoc (c_h ?_) ?_ ?_|refine zoc (c_nwhen _ _) ?_ ?_|fail)|(omega;done))
  · rw [if_neg h,if_neg h,hw.resolve_left h];exact Sub.refl _
  · rw [if_pos h,if_pos h]
    exact sub_eq (by simp)
theorem c_numbers (n:Nat) (hn:n≤1000000):Ax.Pure Tryz.prog G 91 [N n] (L64 (rng n)):=by
  have hl:=rng_len
  refine zen Tryz.func91 rfl Tryz.ntmps91 ?_
  intro w0 E0 hc
  repeat' (first|(with_reducible first|refine Wp_seq ?_|refine zr0 hc ?_|refine zm0 hc ?_|refine zwk ?_|refine Wp_block ?_|refine zgo ?_|refine zbn ?_|refine zge Tryz.results91 ?_|refine Sub.refl _|refine allP_nil|refine zoa1 (out':=?_) ?_|refine zca1 (y:=?_) ?_|refine zea1 (eo':=?_) ?_)|(with_reducible refine allP_cons ?_ ?_;focus (first|decide|omega))|(with_reducible first|refine zg2 ?_ ?_|apply zagr hc|apply zanil hc|refine appK_intro (fun cc_ hcc_=>?_)|exact zia1|refine zbo ?_|refine zg3 ?_ (fun h=>?_) (fun h=>?_)|refine zg4 (fun h=>?_) (fun h=>?_)|fail)|(exact Is.refl _)|(omega;done))
  refine Wp_loopI (α:=Nat×Nat) (fun p=>stOf [(0,N n),(3,.one (.gr 0 1 p.1 p.2)),(5,N n),(6,N p.1)] [(0,⟨1,p.2,rowG .i64 (rng p.1),true⟩)] 1)
    (fun p=>p.1≤n∧p.1≤p.2) (fun p=>n - p.1) (0,0) ⟨Nat.zero_le _,Nat.zero_le _⟩ ?_ ?_
  · refine zW2 ?_ <;> repeat' (with_reducible first|exact trivial|refine zan ?_ ?_|refine zal (fun i hi=>?_))
  · rintro ⟨i,cc⟩ ⟨h1,hcc⟩
    dsimp only at h1 hcc
    have hl1:=hl i
    have hl2:=hl (i+1)
    have hs:=rng_snoc i
    repeat' (first|(with_reducible first|refine Wp_seq ?_|refine zwk ?_|refine Wp_block ?_|refine zgo ?_|refine zbn ?_|refine zge Tryz.results91 ?_|refine Sub.refl _|refine allP_nil|refine zoa1 (out':=?_) ?_|refine zca1 (y:=?_) ?_|refine zea1 (eo':=?_) ?_)|(with_reducible refine zrs [7] hc ?_ ?_;focus (with_unfolding_all rfl))|(with_reducible refine zrm [7] hc mixed ?_ ?_;focus (with_unfolding_all rfl))|(with_reducible refine allP_cons ?_ ?_;focus (first|decide|omega))|(with_reducible first|refine zg2 ?_ ?_|apply zagr hc|apply zanil hc|refine appK_intro (fun cc_ hcc_=>?_)|exact zia1|refine zbo ?_|refine zg3 ?_ (fun h=>?_) (fun h=>?_)|refine zg4 (fun h=>?_) (fun h=>?_)|fail)|(exact Is.refl _)|((first|omega|decide);done))
    rotate_left
    · refine Wp_frzG hc 0 3 i cc .i64 (rng i) [] [] 1 [] [] ?_ rfl hl1 hcc rfl rfl (fun _ h=>by cases h) ?_
      · refine zW2 ?_ <;> repeat' (with_reducible first|exact trivial|refine zan ?_ ?_|refine zal (fun i hi=>?_))
      · repeat' (first|refine zR1 hc Tryz.results91 ?_|(with_reducible first|exact trivial|refine zan ?_ ?_|refine zim (fun h=>?_)|fail))
        all_goals exact sub_eq (by rw [show i=n by omega])
    all_goals
      refine ⟨(i+1,cc_),⟨by dsimp only;omega,hcc_⟩,by dsimp only;omega,?_⟩
      refine zW2 ?_ <;> repeat' (with_reducible first|exact trivial|refine zan ?_ ?_|refine zal (fun i hi=>?_))
      rw [hs]
def stg (d:Nat) (w:Int):Int:=w*(sid d w.toNat)*(sid d w.toNat)
theorem c_stg (d w:Nat) (hd:d≤10000) (hw:w≤10000):Ax.Pure Tryz.prog G 112 [N w,.one (.pp [.v (.int .i64 d)])] (N (stg d w)):=by
  have c_s:=c_side d w hd hw
  have hs:=sid_le d w
  have m1:w*sid d w≤100000000:=Nat.mul_le_mul hw (show sid d w≤10000 by omega)
  have m2:w*sid d w*sid d w≤1000000000000:=Nat.mul_le_mul m1 (show sid d w≤10000 by omega)
  have w1:IntKind.i64.wrap (IntKind.i64.wrap ((w:Int)*(sid d w:Nat))*(sid d w:Nat))=stg d w:=by
    rw [←Int.natCast_mul,w64n (by omega),←Int.natCast_mul,w64n (by omega)]
    unfold stg
    rw [Int.toNat_natCast]
    simp
  refine zen Tryz.func112 rfl Tryz.ntmps112 ?_
  intro w0 E0 hc
  repeat' (first|refine zR1 hc Tryz.results112 ?_|(with_reducible first|exact trivial|refine zan ?_ ?_|refine zim (fun h=>?_)|refine zoc c_s ?_ ?_|fail)|(omega;done))
  all_goals exact sub_eq (congrArg N w1)
theorem c_bestI (g:Int→Int) (f:Nat) (d:Int) (l:List Int) (hl:l.length≤1000000) (c_f:∀i,i < l.length→Ax.Pure Tryz.prog G f [N (l.getD i 0),.one (.pp [.v (.int .i64 d)])] (N (g (l.getD i 0)))):Ax.Pure Tryz.prog G 103 [L64 l,.one (.fn (.func f) [] [.pp [.v (.int .i64 d)]])] (.tup [N (bst g l (0,0)).1,Bo (decide (0 < (bst g l (0,0)).2))]):=by
  refine zen Tryz.func103 rfl Tryz.ntmps103 ?_
  intro w0 E0 hc
  repeat' (first|refine zR1 hc Tryz.results103 ?_|(with_reducible first|exact trivial|refine zan ?_ ?_|refine zim (fun h=>?_)|fail)|(omega;done))
  refine Wp_loopI (α:=Nat×Int×Int) (fun p=>stOf [(0,L64 l),(1,.one (.fn (.func f) [] [.pp [.v (.int .i64 d)]])),(6,N p.2.1),(7,N p.2.2),(11,L64 l),(12,N l.length),(13,N p.1)] [] 0) (fun p=>p.1≤l.length∧bst g l (0,0)=bst g (l.drop p.1) (p.2.1,p.2.2)) (fun p=>l.length - p.1) (0,0,0) ⟨Nat.zero_le _,rfl⟩ ?_ ?_
  · refine zW2 ?_ <;> repeat' (with_reducible first|exact trivial|refine zan ?_ ?_|refine zal (fun i hi=>?_))
  · rintro ⟨i,o,m⟩ ⟨h1,h2⟩
    dsimp only at h1 h2
    have c_g:=fun h:i < l.length=>c_f i h
    have hd:=fun h:i < l.length=>bst_drop g h (o,m)
    repeat' (first|refine zR1 hc Tryz.results103 ?_|(with_reducible first|exact trivial|refine zan ?_ ?_|refine zim (fun h=>?_)|refine zoc (c_g ?_) ?_ ?_|fail)|(omega;done))
    · have hd':=hd (by omega)
      rw [if_pos h] at hd'
      refine ⟨(i+1,l.getD i 0,g (l.getD i 0)),⟨by dsimp only;omega,by rw [h2,hd']⟩,by dsimp only;omega,?_⟩
      refine zW2 ?_ <;> repeat' (with_reducible first|exact trivial|refine zan ?_ ?_|refine zal (fun i hi=>?_))
    · have hd':=hd (by omega)
      rw [if_neg h] at hd'
      refine ⟨(i+1,o,m),⟨by dsimp only;omega,by rw [h2,hd']⟩,by dsimp only;omega,?_⟩
      refine zW2 ?_ <;> repeat' (with_reducible first|exact trivial|refine zan ?_ ?_|refine zal (fun i hi=>?_))
    · have:l.length≤i:=by omega
      rw [List.drop_eq_nil_of_le this] at h2
      exact sub_eq (by rw [h2];rfl)
end Go.Proofs
end
section
set_option maxHeartbeats 4000000
set_option maxRecDepth 100000
namespace Go.Proofs
open Go.Ax
def stB (d:Nat):Int×Int:=bst (stg d) (rng (d+1)) (0,0)
theorem rng_mem {n:Nat} {x:Int} (h:x∈rng n):∃k:Nat,k < n∧x=k:=by
  unfold rng at h
  obtain ⟨k,h1,rfl⟩:=List.mem_map.1 h
  exact ⟨k,List.mem_range.1 h1,rfl⟩
theorem rng_get {n i:Nat} (h:i < n):(rng n).getD i 0=i:=by
  unfold rng
  simp [List.getD_eq_getElem?_getD,h]
theorem stB_in (d:Nat):∃k:Nat,k≤d∧(stB d).1=k∧(0 < (stB d).2↔0 < k):=by
  unfold stB
  refine bst_prop (stg d) (fun p=>∃k:Nat,k≤d∧p.1=k∧0≤p.2∧(0 < p.2↔0 < k)) _ _ ⟨0,Nat.zero_le _,rfl,by decide,by decide⟩ (fun x hx q hq hlt=>?_) |>.imp fun k h=>⟨h.1,h.2.1,h.2.2.2⟩
  obtain ⟨k,h1,rfl⟩:=rng_mem hx
  obtain ⟨_,_,_,h3,_⟩:=hq
  refine ⟨k,by omega,rfl,by dsimp only;omega,fun _=>?_,fun _=>by dsimp only;omega⟩
  rcases Nat.eq_zero_or_pos k with h|h
  · subst h
    exfalso
    have:stg d ((0:Nat):Int)=0:=by simp [stg]
    omega
  · exact h
theorem c_Strongest (d:Int):Ax.Pure Tryz.prog G 51 [N d] (.tup [N (if errL [d]=0 then (stB d.toNat).1 else 0),N (if errL [d]=0 then (if (stB d.toNat).1=0 then 0 else ((sid d.toNat (stB d.toNat).1.toNat:Nat):Int)) else 0),N (if errL [d]=0 then (if (stB d.toNat).1=0 then 7 else 0) else 3)]):=by
  have c_s:=c_sizes1 d
  have hw:=errL_or [d]
  by_cases he:errL [d]=0
  · have ho:=errL_ok he d (by simp)
    obtain ⟨n,rfl⟩:∃n:Nat,d=n:=⟨d.toNat,by omega⟩
    have hn:n≤10000:=by omega
    have w1:IntKind.i64.wrap ((n:Int)+1)=((n+1:Nat):Int):=by rw [w64 (by omega) (by omega)];omega
    have c_0:=c_numbers (n+1) (by omega)
    have c_n:Ax.Pure Tryz.prog G 91 [N (IntKind.i64.wrap ((n:Int)+1))] (L64 (rng (n+1))):=by rw [w1];exact c_0
    have c_b:=c_bestI (stg n) 112 n (rng (n+1)) (by rw [rng_len];omega) (fun i hi=>by
      rw [rng_len] at hi
      rw [rng_get hi]
      exact c_stg n i hn (by omega))
    obtain ⟨k,h1,h2,h3⟩:=stB_in n
    have c_d:=c_side n k hn (by omega)
    have e1:bst (stg n) (rng (n+1)) (0,0)=stB n:=rfl
    rw [e1,h2] at c_b
    rw [if_pos he,if_pos he,if_pos he,Int.toNat_natCast,h2,Int.toNat_natCast]
    rw [he] at c_s
    refine zen Tryz.func51 rfl Tryz.ntmps51 ?_
    intro w0 E0 hc
    repeat' (first|(with_reducible first|refine Wp_seq ?_|refine zwk ?_|refine Wp_block ?_|refine zgo ?_|refine zbn ?_|refine zge Tryz.results51 ?_|refine Sub.refl _|refine allP_nil|refine zoa1 (out':=?_) ?_|refine zca1 (y:=?_) ?_|refine zea1 (eo':=?_) ?_)|(with_reducible refine zrs [1] hc ?_ ?_;focus (with_unfolding_all rfl))|(with_reducible refine zrm [1] hc mixed ?_ ?_;focus (with_unfolding_all rfl))|(with_reducible refine allP_cons ?_ ?_;focus (first|decide|omega))|(with_reducible first|refine zg2 ?_ ?_|refine zbo ?_|refine zg3 ?_ (fun h=>?_) (fun h=>?_)|refine zg4 (fun h=>?_) (fun h=>?_)|fail)|(omega;done))
    refine Wp_frzP hc 0 (sz:=1) (ro:=false) (g:=fun _=> [.v (.int .i64 n)]) (Is.refl _) ⟨trivial,trivial⟩ rfl ?_
    refine Wp_weaker (st':=stOf [(1,.one (.pp [.v (.int .i64 n)])),(2,N 0),(3,N 0),(4,N 0)] [] 1) ?_ ?_
    · refine zW1 ?_ <;> repeat' (with_reducible first|exact trivial|refine zan ?_ ?_|refine zal (fun i hi=>?_))
    repeat' (first|refine zR1 hc Tryz.results51 ?_|(with_reducible first|exact trivial|refine zan ?_ ?_|refine zim (fun h=>?_)|refine zoc c_s ?_ ?_|refine zoc c_n ?_ ?_|refine zoc c_b ?_ ?_|refine zoc c_d ?_ ?_|fail)|(omega;done))
    · have hk:k=0:=by
        have h4:¬0 < (stB n).2:=by simpa using h
        have:=mt h3.2 h4
        omega
      exact sub_eq (by simp [hk])
    · have hk:k≠0:=by
        have h4:0 < (stB n).2:=by simpa using h
        have:=h3.1 h4
        omega
      exact sub_eq (by simp [hk])
  · have e3:=hw.resolve_left he
    rw [if_neg he,if_neg he,if_neg he]
    rw [e3] at c_s
    refine zen Tryz.func51 rfl Tryz.ntmps51 ?_
    intro w0 E0 hc
    repeat' (first|refine zR1 hc Tryz.results51 ?_|(with_reducible first|exact trivial|refine zan ?_ ?_|refine zim (fun h=>?_)|refine zoc c_s ?_ ?_|fail)|(omega;done))
theorem r_Size (l:List Int) (hl:l.length≤1000000):Ax.Pure Tryz.prog G 40 [L64 l] (N (errL l)):=by
  unfold errL
  refine zen Tryz.func40 rfl Tryz.ntmps40 ?_
  intro w0 E0 hc
  repeat' (first|refine zR1 hc Tryz.results40 ?_|(with_reducible first|exact trivial|refine zan ?_ ?_|refine zim (fun h=>?_)|fail)|(omega;done))
  refine Wp_loopI (α:=Nat) (fun i=>stOf [(0,L64 l),(3,N i)] [] 0) (fun i=>i≤l.length∧badL l=badL (l.drop i)) (fun i=>l.length - i) 0 ⟨Nat.zero_le _,rfl⟩ ?_ ?_
  · refine zW1 ?_ <;> repeat' (with_reducible first|exact trivial|refine zan ?_ ?_|refine zal (fun i hi=>?_))
  · rintro i ⟨h1,h2⟩
    have hd:=fun h:i < l.length=>badL_drop h
    repeat' (first|refine zR1 hc Tryz.results40 ?_|(with_reducible first|exact trivial|refine zan ?_ ?_|refine zim (fun h=>?_)|fail)|(omega;done))
    · have hd':=hd (by omega)
      rw [show badN (l.getD i 0)=true from decide_eq_true (.inr h)] at hd'
      rw [h2,hd'];exact Sub.refl _
    · rename_i g
      have hd':=hd (by omega)
      rw [show badN (l.getD i 0)=false from decide_eq_false (by omega),Bool.false_or] at hd'
      refine ⟨i+1,⟨by omega,by rw [h2,hd']⟩,by omega,?_⟩
      refine zW1 ?_ <;> repeat' (with_reducible first|exact trivial|refine zan ?_ ?_|refine zal (fun i hi=>?_))
    · have hd':=hd (by omega)
      rw [show badN (l.getD i 0)=true from decide_eq_true (.inl h)] at hd'
      rw [h2,hd'];exact Sub.refl _
    · have:l.length≤i:=by omega
      rw [List.drop_eq_nil_of_le this] at h2
      rw [h2];exact Sub.refl _
theorem r_Size1 (a:Int):Ax.Pure Tryz.prog G 40 [.one (.row 1 1 (fun i=> [[Leaf.v (.int .i64 a)]].getD i []))] (N (errL [a])):=
  pure_args (r_Size [a] (show 1≤1000000 by decide)) ⟨sub_row_list [a],trivial⟩ ⟨trivial,trivial⟩
theorem r_Size3 (a b c:Int):Ax.Pure Tryz.prog G 40 [.one (.row 1 3 (fun i=> [[Leaf.v (.int .i64 a)],[Leaf.v (.int .i64 b)],[Leaf.v (.int .i64 c)]].getD i []))] (N (errL [a,b,c])):=
  pure_args (r_Size [a,b,c] (show 3≤1000000 by decide)) ⟨sub_row_list [a,b,c],trivial⟩ ⟨trivial,trivial⟩
theorem r_Fits (w h d:Nat) (hw:w≤10000) (hh:h≤10001) (hd:d≤10000):Ax.Pure Tryz.prog G 52 [N w,N h,N d] (Bo (fitB w h d)):=by
  have m1:d*d≤100000000:=Nat.mul_le_mul hd hd
  have m2:w*w≤100000000:=Nat.mul_le_mul hw hw
  have m3:h*h≤100020001:=Nat.mul_le_mul hh hh
  have w1:IntKind.i64.wrap ((d:Int)*d)=((d*d:Nat):Int):=by rw [←Int.natCast_mul];exact w64n (by omega)
  have w2:IntKind.i64.wrap (IntKind.i64.wrap ((w:Int)*w)+IntKind.i64.wrap ((h:Int)*h))=((w*w+h*h:Nat):Int):=by
    rw [←Int.natCast_mul,←Int.natCast_mul,w64n (by omega),w64n (by omega),←Int.natCast_add,w64n (by omega)]
  refine zen Tryz.func52 rfl Tryz.ntmps52 ?_
  intro w0 E0 hc
  repeat' (first|refine zR1 hc Tryz.results52 ?_|(with_reducible first|exact trivial|refine zan ?_ ?_|refine zim (fun h=>?_)|fail)|(omega;done))
  rw [w1,w2]
  unfold fitB
  rw [←Int.natCast_mul,←Int.natCast_mul,←Int.natCast_mul,←Int.natCast_add]
  exact Sub.refl _
theorem r_Highest (d w:Nat) (hd:d≤10000) (hw:w≤10000):Ax.Pure Tryz.prog G 54 [N d,N w] (N (sid d w)):=by
  have hs:=sid_le d w
  refine zen Tryz.func54 rfl Tryz.ntmps54 ?_
  intro w0 E0 hc
  repeat' (first|refine zR1 hc Tryz.results54 ?_|(with_reducible first|exact trivial|refine zan ?_ ?_|refine zim (fun h=>?_)|fail)|(omega;done))
  refine Wp_loopI (α:=Nat) (fun i=>stOf [(0,N d),(1,N w),(5,N i)] [] 0) (fun i=>i≤sid d w) (fun i=>sid d w - i) 0 (Nat.zero_le _) ?_ ?_
  · refine zW1 ?_ <;> repeat' (with_reducible first|exact trivial|refine zan ?_ ?_|refine zal (fun i hi=>?_))
  · intro i h1
    have w1:IntKind.i64.wrap ((i:Int)+1)=((i+1:Nat):Int):=by rw [w64 (by omega) (by omega)];omega
    have c_0:=r_Fits w (i+1) d hw (by omega) hd
    have c_f:Ax.Pure Tryz.prog G 52 [N w,N (IntKind.i64.wrap ((i:Int)+1)),N d] (Bo (fitB w ((i+1:Nat):Int) d)):=by rw [w1];exact c_0
    have hf:=sid_iff (d:=d) (w:=w) (h:=i+1) (by omega)
    have hb:fitB w ((i+1:Nat):Int) d=decide (i+1≤sid d w):=by
      unfold fitB
      refine decide_eq_decide.2 ?_
      rw [←Int.natCast_mul,←Int.natCast_mul,←Int.natCast_mul,←Int.natCast_add]
      exact Int.ofNat_le.trans hf.symm
    rw [hb] at c_f
    repeat' (first|refine zR1 hc Tryz.results54 ?_|(with_reducible first|exact trivial|refine zan ?_ ?_|refine zim (fun h=>?_)|refine zoc c_f ?_ ?_|fail)|(omega;done))
    · refine ⟨i+1,h,by omega,?_⟩
      refine zW1 ?_ <;> repeat' (with_reducible first|exact trivial|refine zan ?_ ?_|refine zal (fun i hi=>?_))
    · exact sub_eq (congrArg N (by omega))
theorem stg_zero (d:Nat):stg d 0=0:=by simp [stg]
theorem r_Strongest (d:Nat) (hd:d≤10000):Ax.Pure Tryz.prog G 53 [N d] (.tup [N (stB d).1,N (if (stB d).1=0 then 0 else ((sid d (stB d).1.toNat:Nat):Int))]):=by
  refine zen Tryz.func53 rfl Tryz.ntmps53 ?_
  intro w0 E0 hc
  repeat' (first|refine zR1 hc Tryz.results53 ?_|(with_reducible first|exact trivial|refine zan ?_ ?_|refine zim (fun h=>?_)|fail)|(omega;done))
  refine Wp_loopI (α:=Nat×Int×Int×Int) (fun p=>stOf [(0,N d),(4,N p.2.1),(5,N p.2.2.1),(6,N p.2.2.2),(7,N p.1)] [] 0)
    (fun p=>1≤p.1∧p.1≤d+1∧bst (stg d) (rng p.1) (0,0)=(p.2.1,p.2.2.2)∧p.2.2.1=if p.2.1=0 then 0 else ((sid d p.2.1.toNat:Nat):Int)) (fun p=>d+1 - p.1) (1,0,0,0) ⟨Nat.le_refl _,by dsimp only;omega,?_,rfl⟩ ?_ ?_
  · show (if (0:Int) < stg d ((0:Nat):Int) then (((0:Nat):Int),stg d ((0:Nat):Int)) else ((0:Int),(0:Int)))=_
    rw [if_neg (by rw [show ((0:Nat):Int)=0 from rfl,stg_zero];decide)]
  · refine zW1 ?_ <;> repeat' (with_reducible first|exact trivial|refine zan ?_ ?_|refine zal (fun i hi=>?_))
  · rintro ⟨x,w,h',m⟩ ⟨h1,h2,h3,h4⟩
    dsimp only at h1 h2 h3 h4
    have c_h:=fun g:x≤d=>r_Highest d x hd (by omega)
    have hs:=sid_le d x
    have w1:IntKind.i64.wrap ((x:Int)+1)=((x+1:Nat):Int):=by rw [w64 (by omega) (by omega)];omega
    have w2:x≤d→IntKind.i64.wrap (IntKind.i64.wrap ((x:Int)*(sid d x:Nat))*(sid d x:Nat))=stg d x:=fun g=>by
      have m1:x*sid d x≤100000000:=Nat.mul_le_mul (show x≤10000 by omega) (show sid d x≤10000 by omega)
      have m2:x*sid d x*sid d x≤1000000000000:=Nat.mul_le_mul m1 (show sid d x≤10000 by omega)
      rw [←Int.natCast_mul,w64n (by omega),←Int.natCast_mul,w64n (by omega)]
      unfold stg
      rw [Int.toNat_natCast]
      simp
    have hb:bst (stg d) (rng (x+1)) (0,0)=if m < stg d x then ((x:Int),stg d x) else (w,m):=by
      rw [rng_snoc,bst_app,h3];rfl
    repeat' (first|refine zR1 hc Tryz.results53 ?_|(with_reducible first|exact trivial|refine zan ?_ ?_|refine zim (fun h=>?_)|refine zoc (c_h ?_) ?_ ?_|fail)|(omega;done))
    · rw [w2 (by omega)] at h
      rw [if_pos h] at hb
      refine ⟨(x+1,x,sid d x,stg d x),⟨by dsimp only;omega,by dsimp only;omega,hb,?_⟩,by dsimp only;omega,?_⟩
      · dsimp only
        rw [if_neg (by omega),Int.toNat_natCast]
      · refine zW1 ?_ <;> repeat' (with_reducible first|exact trivial|refine zan ?_ ?_|refine zal (fun i hi=>?_))
        try rw [w2 (by omega)]
    · rw [w2 (by omega)] at h
      rw [if_neg h] at hb
      refine ⟨(x+1,w,h',m),⟨by dsimp only;omega,by dsimp only;omega,hb,h4⟩,by dsimp only;omega,?_⟩
      refine zW1 ?_ <;> repeat' (with_reducible first|exact trivial|refine zan ?_ ?_|refine zal (fun i hi=>?_))
    · have e:x=d+1:=by omega
      rw [e] at h3
      have e1:stB d=(w,m):=h3
      rw [e1,h4];exact Sub.refl _
theorem l_when (b:Bool) (e:Int):Ax.Pure Tryz.prog G 33 [Bo b,N e] (N (if b=true then e else 0)):=by
  refine zen Tryz.func33 rfl Tryz.ntmps33 ?_
  intro w0 E0 hc
  cases b
  · repeat' (first|refine zR1 hc Tryz.results33 ?_|(with_reducible first|exact trivial|refine zan ?_ ?_|refine zim (fun h=>?_)|fail)|(omega;done))
    all_goals exact Sub.refl _
  · repeat' (first|refine zR1 hc Tryz.results33 ?_|(with_reducible first|exact trivial|refine zan ?_ ?_|refine zim (fun h=>?_)|fail)|(omega;done))
    all_goals exact Sub.refl _
def numB (have' e bad want:Int):Bool:=if bad=0 then decide (e=0∧have'=want) else decide (have'=0∧e=bad)
theorem l_number (x e bad want:Int):Ax.Pure Tryz.prog G 24 [N x,N e,N bad,N want] (Bo (numB x e bad want)):=by
  unfold numB
  refine zen Tryz.func24 rfl Tryz.ntmps24 ?_
  intro w0 E0 hc
  repeat' (first|refine zR1 hc Tryz.results24 ?_|(with_reducible first|exact trivial|refine zan ?_ ?_|refine zim (fun h=>?_)|fail)|(omega;done))
  · rename_i g
    exact sub_eq (congrArg Bo (by rw [if_neg g,show (e == bad)=decide (e=bad) from rfl];simp [h]))
  · rename_i g
    exact sub_eq (congrArg Bo (by rw [if_neg g];simp [h]))
  · rename_i g
    exact sub_eq (congrArg Bo (by rw [if_pos g,show (x == want)=decide (x=want) from rfl];simp [h]))
  · rename_i g
    exact sub_eq (congrArg Bo (by rw [if_pos g];simp [h]))
end Go.Proofs
end
