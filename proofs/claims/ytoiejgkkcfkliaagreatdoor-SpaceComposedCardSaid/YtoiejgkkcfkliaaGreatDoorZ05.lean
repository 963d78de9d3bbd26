/- Lemmas on the program and its library: part Z05. -/
import Derived.Test.YtoiejgkkcfkliaaGreatDoorZ04
set_option linter.unusedVariables false
set_option linter.unusedSimpArgs false
section
set_option maxHeartbeats 1000000
namespace Go.Ax
open Go.RowKit (Below)
def upd (t:Nat→AV) (d:Nat) (x:AV) (n:Nat):AV:=match Nat.beq n d with
  | true=>x
  | false=>t n
def a57 (h:Nat→Option Box) (d:Nat) (x:Box) (n:Nat):Option Box:=match Nat.beq n d with
  | true=>some x
  | false=>h n
theorem c0v (t:Nat→AV) (d:Nat) (x:AV) (n:Nat):upd t d x n=if n=d then x else t n:=by
  unfold upd
  by_cases e:n=d
  · subst e;simp
  · have:Nat.beq n d=false:=by cases h:Nat.beq n d with
      | false=>rfl
      | true=>exact absurd (Nat.eq_of_beq_eq_true h) e
    simp [this,e]
theorem d0o (h:Nat→Option Box) (d:Nat) (x:Box) (n:Nat):a57 h d x n=if n=d then some x else h n:=by
  unfold a57
  by_cases e:n=d
  · subst e;simp
  · have:Nat.beq n d=false:=by cases h:Nat.beq n d with
      | false=>rfl
      | true=>exact absurd (Nat.eq_of_beq_eq_true h) e
    simp [this,e]
def St.put (st:St) (dst:Option Tmp) (x:AV):St:=match dst with
  | some d=>{ st with t:=upd st.t d x }
  | none=>st
def St.eff (st:St) (e:Eff):St:=match e with
  | .none=>st
  | .new id bx=>{ st with h:=a57 st.h id bx,nb:=id+1 }
  | .set id bx=>{ st with h:=a57 st.h id bx }
def St.step (st:St) (dst:Option Tmp) (it:b8b):St:=(st.put dst it.val).eff it.eff
structure Sh where
  reads:List Nat
  eff:Option (Bool×Nat)
def Eff.sh:Eff→Option (Bool×Nat)
  | .none=>Option.none
  | .new id _=>some (true,id)
  | .set id _=>some (false,id)
inductive Res where
  | val (it:b8b)
  | ok (pre:Prop) (it:b8b)
  | call (f:FuncId) (args:List AV)
  | hand
  | bad
def a2k:List AV→Option (List i7)
  | []=>some []
  | .one l :: r => match a2k r with
    | some ls=>some (l :: ls)
    | none=>none
  | _ :: _=>none
theorem b9x {E:u6} {w:World}:∀{xs:List AV} {ls:List i7} {vs:List Value},a2k xs=some ls→RVs E w xs vs→j7 E w ls vs
  | [],ls,vs,h,hv=>by cases h;exact hv
  | .one l :: r, ls, vs, h, hv => by
    unfold a2k at h
    split at h
    · rename_i ls' h'
      cases h
      obtain ⟨v,r',rfl,⟨_,h1⟩,h2⟩:=hv
      exact ⟨[v],r',rfl,h1,b9x h' h2⟩
    · cases h
  | .agg _ :: _,_,_,h,_=>by simp [a2k] at h
  | .tup _ :: _,_,_,h,_=>by simp [a2k] at h
  | .u :: _,_,_,h,_=>by simp [a2k] at h
theorem c1b {P:Program} {G:World→Prop} {o:Oper} {fn:Fn} {first captured:Array Operand} (ho:o.op= .makeFunc fn first captured) {ev:Operand→AV} {fs cs:List i7} (h1:a2k (first.toList.map ev)=some fs) (h2:a2k (captured.toList.map ev)=some cs) (H:Nat→Option Box):n4 P G o ev H { val:=.one (.fn fn fs cs) }:=by
  refine t6 fun E w a _ _ hops _=>?_
  have o1:=b9x h1 (b4g (E:=E) (w:=w) (f:=a.eval) first.toList fun y hy=>hops y (by rw [ho];show y∈first++captured;exact Array.mem_append.2 (.inl (by simpa using hy))))
  have o2:=b9x h2 (b4g (E:=E) (w:=w) (f:=a.eval) captured.toList fun y hy=>hops y (by rw [ho];show y∈first++captured;exact Array.mem_append.2 (.inr (by simpa using hy))))
  refine ⟨.func fn (first.map a.eval) (captured.map a.eval),?_,rfl,first.toList.map a.eval,captured.toList.map a.eval,?_,o1,o2⟩
  · unfold execOp;rw [ho];dsimp only
    simp only [Instr.makeFunc,Sem.run_bind,Sem.run_pure,Result.andThen_ok]
  · simp only [List.cons.injEq,and_true,Value.func.injEq,true_and]
    exact ⟨by rw [←Array.toList_map],by rw [←Array.toList_map]⟩
section
variable (tt:TypeId→Option TyI) (nb0:Nat)
def a33 (cl:Call) (ev:Operand→AV):Res:=
  match cl.callee with
  | .value (.func f)=>.call f (cl.args.toList.map ev)
  | .value (.tmp t) => match ev (.tmp t) with
    | .one (.fn (.func f) fs cs) => match fs.all (fun l => Nat.beq l.size 1), cs.all (fun l => Nat.beq l.size 1) with
      | true,true=>.call f (fs.map AV.one++cl.args.toList.map ev++cs.map AV.one)
      | _,_=>.hand
    | _=>.hand
  | .builtin .len => match cl.args.toList, cl.argTypes.toList with
    | [x], [T] => match ev x, tt T with
      | .one (.v (.string s)), some ti => match ti.kind with
        | .string=>.val { val:=.one (.v (.int .i64 s.size)) }
        | _=>.bad
      | y, some ti => match b0c y, ti.kind with
        | some n,.slice _ _=>.val { val:=.one (.v (.int .i64 n)) }
        | _,_=>.hand
      | _,_=>.bad
    | _,_=>.bad
  | .builtin .min => match cl.args.toList with
    | [x, y] => match ev x, ev y with
      | .one (.v (.int k a)), .one (.v (.int k' b)) => match a7a k k' with
        | true=>.val { val:=.one (.v (.int k (if b < a then b else a))) }
        | false=>.bad
      | _,_=>.bad
    | _=>.bad
  | .builtin .max => match cl.args.toList with
    | [x, y] => match ev x, ev y with
      | .one (.v (.int k a)), .one (.v (.int k' b)) => match a7a k k' with
        | true=>.val { val:=.one (.v (.int k (if a < b then b else a))) }
        | false=>.bad
      | _,_=>.bad
    | _=>.bad
  | _=>.hand
def a7j (o:Oper) (ev:Operand→AV) (h:Nat→Option Box) (nb:Nat):Res:=
  match o.op with
  | .move x=>.val { val:=ev x }
  | .assign x=>.val { val:=ev x }
  | .pick c x y => match ev c with
    | .one (.v (.bool b))=>.val { val:=a59 b (ev x) (ev y) }
    | _=>.bad
  | .box _ x => match (ev x).leaves with
    | some ls=>.val { val:=.one (.ptr nb (s8 ls) 0 0),eff:=.new nb { sz:=s8 ls,n:=1,g:=fun _=>ls } }
    | none=>.bad
  | .alloc T => match tt T with
    | some ti => match ti.zero with
      | some zs => match zs.all (·.oneCell') with
        | true=>.val { val:=.one (.ptr nb (s8 (zs.map i7.v)) 0 0),eff:=.new nb { sz:=s8 (zs.map i7.v),n:=1,g:=fun _=>zs.map i7.v } }
        | false=>.bad
      | none=>.bad
    | none=>.bad
  | .load T x => match ev x, tt T with
    | .one (.ptr b sz i off), some ti => match h b with
      | some bx => match a7i (bx.g i) off ti.size with
        | some ls => match a66 ti.agg ls with
          | some y=>.ok (i < bx.n∧sz=bx.sz∧0 < ti.size) { val:=y,reads:=[b] }
          | none=>.bad
        | none=>.bad
      | none=>.bad
    | .one (.pp xs), some ti => match a7i xs 0 ti.size with
      | some ls => match a66 ti.agg ls, Nat.ble 1 ti.size with
        | some y,true=>.val { val:=y }
        | _,_=>.bad
      | none=>.bad
    | _,_=>.bad
  | .store T x y => match ev x, tt T with
    | .one (.ptr b sz i off), some ti => match h b with
      | some bx => match (ev y).leaves with
        | some new => match b0t (bx.g i) off ti.size new with
          | some ls=>.ok (nb0≤b∧i < bx.n∧sz=bx.sz∧s8 new=ti.size∧off+ti.size≤bx.sz) { val:=.u,eff:=.set b (bx.put i ls) }
          | none=>.bad
        | none=>.bad
      | none=>.bad
    | _,_=>.bad
  | .fieldAddr T x f => match tt T with
    | some ti => match ti.kind with
      | .struct offs => match offs[f]?, ev x with
        | some (d, c, _), .one (.ptr b sz i off) => match Nat.ble 1 c with
          | true=>.val { val:=.one (.ptr b sz i (off+d)) }
          | false=>.bad
        | some (d, c, _), .one (.pp xs) => match a1y xs d, Nat.ble 1 c with
          | some ys,true=>.val { val:=.one (.pp ys) }
          | _,_=>.bad
        | _,_=>.bad
      | _=>.bad
    | none=>.bad
  | .binOp op T x y _ => match ev x, ev y with
    | .one (.v a), .one (.v b) => match tt T with
      | some ti => match b3k ti.kind op a b with
        | some (pre,v)=>.ok (pre∧v.oneCell'=true) { val:=.one (.v v) }
        | none=>.hand
      | none=>.bad
    | .one (.nn _ _), .one (.v (.slice none n0 c0)) => match tt T with
      | some ti => match ti.kind, op, b3y n0 c0 with
        | .slice _ _,.eql,true=>.val { val:=.one (.v (.bool false)) }
        | .slice _ _,.neq,true=>.val { val:=.one (.v (.bool true)) }
        | _,_,_=>.bad
      | none=>.bad
    | .agg xs, .agg ys => match tt T with
      | some ti => match ti.flat, ti.agg, a3h xs, a3h ys with
        | some ks, true, some vs, some us => match a4a ks vs, a4a ks us, op with
          | true,true,.eql=>.val { val:=.one (.v (.bool (a38 vs us))) }
          | true,true,.neq=>.val { val:=.one (.v (.bool (!a38 vs us))) }
          | _,_,_=>.bad
        | _,_,_,_=>.hand
      | none=>.bad
    | _,_=>.hand
  | .unOp op _ x => match ev x with
    | .one (.v a) => match unV op a with
      | some v=>.val { val:=.one (.v v) }
      | none=>.hand
    | _=>.bad
  | .convert S T x => match ev x with
    | .one (.v a) => match tt S, tt T with
      | some si, some ti => match a7o si.kind ti.kind a with
        | some v=>.val { val:=.one (.v v) }
        | none=>.hand
      | _,_=>.bad
    | _=>.hand
  | .extract x i => match ev x with
    | .tup xs => match xs[i]? with
      | some y=>.val { val:=y }
      | none=>.bad
    | _=>.bad
  | .indexAddr T x y => match ev y, tt T with
    | .one (.v (.int _ i)), some ti => match ti.kind with
      | .slice _ sz => match b6v sz i (ev x) with
        | some (pre,r)=>.ok (0 < sz∧pre) { val:=r }
        | none=>.bad
      | .array m _ sz => match ev x with
        | .one (.ptr b s j off)=>.ok (0 < sz∧0≤i∧i < m) { val:=.one (.ptr b s j (off+i.toNat*sz)) }
        | .one (.pp xs) => match a1y xs (i.toNat * sz) with
          | some ys=>.ok (0 < sz∧0≤i∧i < m) { val:=.one (.pp ys) }
          | none=>.bad
        | _=>.bad
      | _=>.bad
    | _,_=>.bad
  | .field T x f => match ev x, tt T with
    | .agg xs, some ti => match ti.kind with
      | .struct offs => match offs[f]? with
        | some (d, c, true) => match a7i xs d c, Nat.ble 1 c with
          | some ls,true=>.val { val:=.agg ls }
          | _,_=>.bad
        | _=>.bad
      | _=>.bad
    | _,_=>.hand
  | .index T x y => match ev y, tt T, ev x with
    | .one (.v (.int _ i)), some ti, .one (.v (.string s)) => match ti.kind with
      | .string=>.ok (0≤i∧i < s.size) { val:=.one (.v (.int .u8 (s.data.getD i.toNat 0).toNat)) }
      | _=>.bad
    | .one (.v (.int _ i)), some ti, .agg xs => match ti.kind with
      | .array m e sz => match tt e, a7i xs (i.toNat * sz) sz with
        | some te, some ls => match a66 te.agg ls with
          | some v=>.ok (0 < sz∧(0≤i∧i < m)∧(te.agg=false→sz=1)) { val:=v }
          | none=>.bad
        | _,_=>.bad
      | _=>.bad
    | _,_,_=>.hand
  | .slice T x lo hi none => match a1w ev lo, a1w ev hi, tt T with
    | some l, some hh, some ti => match ev x, ti.kind with
      | .one (.v (.string s)),.string=>.ok (0≤l.getD 0∧l.getD 0≤hh.getD s.size∧hh.getD s.size≤s.size) { val:=.one (.v (.string (s.extract (l.getD 0).toNat (hh.getD s.size).toNat))) }
      | .one (.ints k xs), .slice _ s1 => match Nat.beq s1 1 with
        | true=>.ok (0≤l.getD 0∧l.getD 0≤hh.getD xs.length∧hh.getD xs.length≤xs.length) { val:=.one (.ints k ((xs.drop (l.getD 0).toNat).take ((hh.getD xs.length).toNat - (l.getD 0).toNat))) }
        | false=>.bad
      | .one (.nn k xs), .slice _ s1 => match Nat.beq s1 1 with
        | true=>.ok (0≤l.getD 0∧l.getD 0≤hh.getD xs.length∧hh.getD xs.length≤xs.length) { val:=.one (.ints k ((xs.drop (l.getD 0).toNat).take ((hh.getD xs.length).toNat - (l.getD 0).toNat))) }
        | false=>.bad
      | .one (.own b s i n c),.slice _ s'=>.ok (s'=s∧0 < s∧0≤l.getD 0∧l.getD 0≤hh.getD n∧hh.getD n≤c∧(l.getD 0=0∨l.getD 0 < c)) { val:=.one (.own b s (i+(l.getD 0).toNat) ((hh.getD n).toNat - (l.getD 0).toNat) (c - (l.getD 0).toNat)) }
      | .one (.pp xs), .array m e sz => match lo, hi, Nat.ble 1 sz, a4b xs sz m with
        | none, none, true, some lss => match lss.all (fun ls => s8 ls == sz) with
          | true=>.val { val:=.one (.row sz m fun i=>lss.getD i []) }
          | false=>.bad
        | _,_,_,_=>.hand
      | _,_=>.hand
    | _,_,_=>.bad
  | .makeSlice T x y => match ev x, ev y, tt T with
    | .one (.v (.int _ l)), .one (.v (.int _ c)), some ti => match ti.kind with
      | .slice e sz => match tt e with
        | some te => match te.zero with
          | some zs=>.ok (0 < sz∧zs.all (·.oneCell')=true∧zs.length=sz∧0≤l∧l≤c∧(te.bytes:Int)*c≤281474976710656∧c≤9223372036854775807)
              { val:=.one (.own nb sz 0 l.toNat c.toNat),eff:=.new nb { sz:=sz,n:=c.toNat,g:=fun _=>zs.map i7.v } }
          | none=>.bad
        | none=>.bad
      | _=>.bad
    | _,_,_=>.bad
  | .build T parts => match tt T with
    | some ti => match ti.zero with
      | some zs => match a3t (a1s ti.kind) ev parts.toList (zs.map i7.v), a3m ti.kind, zs.all (·.oneCell') with
        | some ls,true,true=>.val { val:=.agg ls }
        | _,_,_=>.bad
      | none=>.bad
    | none=>.bad
  | .buildSlice T len parts => match tt T with
    | some ti => match ti.kind with
      | .slice e sz => match tt e with
        | some te => match Nat.beq len 0, te.zero, a0y ev parts.toList 0 with
          | true,some _,some []=>.ok (0 < sz) { val:=.one (.gr nb sz 0 0),eff:=.new nb ⟨sz,0,fun _=> [],true⟩}
          | false,some _,some lss=>.ok (0 < sz∧lss.all (fun ls=>s8 ls == sz && ls.all i7.clB)=true∧lss.length=len∧parts.toList.length=len∧len*sz≤16777216) { val:=.one (.row sz len fun i=>lss.getD i []) }
          | _,_,_=>.bad
        | none=>.bad
      | _=>.bad
    | none=>.bad
  | .makeFunc fn first captured => match a2k (first.toList.map ev), a2k (captured.toList.map ev) with
    | some fs,some cs=>.val { val:=.one (.fn fn fs cs) }
    | _,_=>.hand
  | .call cl=>a33 tt cl ev
  | _=>.hand
end
structure d3u (P:Program) (G:World→Prop) (nb0:Nat) (o:Oper) (ev:Operand→AV) (h:Nat→Option Box) (nb:Nat) (it:b8b):Prop where
  sound:n4 P G o ev h it
  new:∀id bx,it.eff= .new id bx→id=nb
  set:∀id bx,it.eff= .set id bx→nb0≤id
theorem r9 {P G nb0 o ev h nb} {it:b8b} (h1:n4 P G o ev h it) (h2:it.eff= .none):d3u P G nb0 o ev h nb it:=
  ⟨h1,(fun _ _ h=>by rw [h2] at h;cases h),(fun _ _ h=>by rw [h2] at h;cases h)⟩
def Res.sound (P:Program) (G:World→Prop) (nb0:Nat) (o:Oper) (ev:Operand→AV) (h:Nat→Option Box) (nb:Nat):Res→Prop
  | .val it=>d3u P G nb0 o ev h nb it
  | .ok pre it=>pre→d3u P G nb0 o ev h nb it
  | .call f xs=>a5j P o ev f xs
  | .hand=>True
  | .bad=>True
theorem d4i {n:Nat} (h:Nat.ble 1 n=true):0 < n:=Nat.le_of_ble_eq_true h
theorem c5i {P:Program} {G:World→Prop} {tt:TypeId→Option TyI} (htt:a2e P tt) {nb0:Nat} (o:Oper) (ev:Operand→AV) (h:Nat→Option Box) (nb:Nat):(a7j tt nb0 o ev h nb).sound P G nb0 o ev h nb:=by
  unfold a7j
  split
  · rename_i x ho;exact r9 (c2k (.inl ho) ev h) rfl
  · rename_i x ho;exact r9 (c2k (.inr ho) ev h) rfl
  · rename_i c x y ho
    split
    · rename_i b hc;exact r9 (d3l ho hc h) rfl
    · trivial
  · rename_i T x ho
    split
    · rename_i ls hx
      exact ⟨d7a ho h nb hx,(fun _ _ h=>by cases h;rfl),(fun _ _ h=>by cases h)⟩
    · trivial
  · rename_i T ho
    split
    · rename_i ti ht
      split
      · rename_i zs hz
        split
        · rename_i h1
          exact ⟨c9f ho (htt _ _ ht) hz h1 ev h nb,(fun _ _ h=>by cases h;rfl),(fun _ _ h=>by cases h)⟩
        · trivial
      · trivial
    · trivial
  · rename_i T x ho
    split
    · rename_i b sz i off ti hx ht
      split
      · rename_i bx hb
        split
        · rename_i ls hls
          split
          · rename_i y hy
            exact fun H=>r9 (d3j ho hx hb H.1 H.2.1 (htt _ _ ht) H.2.2 hls hy) rfl
          · trivial
        · trivial
      · trivial
    · rename_i xs ti hx ht
      split
      · rename_i ls hls
        split
        · rename_i y hy hp
          exact r9 (c4w ho hx h (htt _ _ ht) (d4i hp) hls hy) rfl
        · trivial
      · trivial
    · trivial
  · rename_i T x y ho
    split
    · rename_i b sz i off ti hx ht
      split
      · rename_i bx hb
        split
        · rename_i new hy
          split
          · rename_i ls hls
            exact fun H=>⟨c0l ho hx hb H.2.1 H.2.2.1 (htt _ _ ht) hy H.2.2.2.1 hls H.2.2.2.2,(fun _ _ h=>by cases h),(fun _ _ h=>by cases h;exact H.1)⟩
          · trivial
        · trivial
      · trivial
    · trivial
  · rename_i T x f ho
    split
    · rename_i ti ht
      split
      · rename_i offs hk
        split
        · rename_i d c r b sz i off hf hx
          split
          · rename_i hc
            exact r9 (c0i ho hx h (htt _ _ ht) hk hf (d4i hc)) rfl
          · trivial
        · rename_i d c r xs hf hx
          split
          · rename_i ys hy hc
            exact r9 (b6a ho hx h (htt _ _ ht) hk hf (d4i hc) hy) rfl
          · trivial
        · trivial
      · trivial
    · trivial
  · rename_i op T x y T' ho
    split
    · rename_i a b hx hy
      split
      · rename_i ti ht
        split
        · rename_i pre v hb
          exact fun H=>r9 (d3i ho hx hy h (htt _ _ ht) hb H.1 H.2) rfl
        · trivial
      · trivial
    · rename_i k l n0 c0 hx hy
      split
      · rename_i ti ht
        split
        · rename_i hk h0
          obtain ⟨rfl,rfl⟩:=b2d h0
          exact r9 (b77 ho hx hy h (htt _ _ ht) hk (.inl ⟨rfl,rfl⟩)) rfl
        · rename_i hk h0
          obtain ⟨rfl,rfl⟩:=b2d h0
          exact r9 (b77 ho hx hy h (htt _ _ ht) hk (.inr ⟨rfl,rfl⟩)) rfl
        · trivial
      · trivial
    · rename_i xs ys hx hy
      split
      · rename_i ti ht
        split
        · rename_i ks vs us hf hag hv hu
          split
          · rename_i h1 h2
            exact r9 (b4b ho hx hy h (htt _ _ ht) hf hag hv hu h1 h2 (.inl ⟨rfl,rfl⟩)) rfl
          · rename_i h1 h2
            exact r9 (b4b ho hx hy h (htt _ _ ht) hf hag hv hu h1 h2 (.inr ⟨rfl,rfl⟩)) rfl
          · trivial
        · trivial
      · trivial
    · trivial
  · rename_i op T x ho
    split
    · rename_i a hx
      split
      · rename_i v hv
        exact r9 (d7e ho hx h hv) rfl
      · trivial
    · trivial
  · rename_i S T x ho
    split
    · rename_i a hx
      split
      · rename_i si ti hs ht
        split
        · rename_i v hv
          exact r9 (c9k ho hx h (htt _ _ hs) (htt _ _ ht) hv) rfl
        · trivial
      · trivial
    · trivial
  · rename_i x i ho
    split
    · rename_i xs hx
      split
      · rename_i y hy
        exact r9 (c4v ho hx h hy) rfl
      · trivial
    · trivial
  · rename_i T x y ho
    split
    · rename_i kd i ti hy ht
      split
      · rename_i e sz hk
        split
        · rename_i pre r hr
          exact fun H=>r9 (d7b ho hy h (htt _ _ ht) hk H.1 hr H.2) rfl
        · trivial
      · rename_i m e sz hk
        split
        · rename_i b s j off hx
          exact fun H=>r9 (c7f ho hy h (htt _ _ ht) hk H.1 hx H.2) rfl
        · rename_i xs hx
          split
          · rename_i ys hd
            exact fun H=>r9 (c0j ho hy h (htt _ _ ht) hk H.1 hx hd H.2) rfl
          · trivial
        · trivial
      · trivial
    · trivial
  · rename_i T x f ho
    split
    · rename_i xs ti hx ht
      split
      · rename_i offs hk
        split
        · rename_i d c hf
          split
          · rename_i ls hls hc
            refine r9 (c0h ho hx h (htt _ _ ht) hk hf (d4i hc) hls rfl (fun e=>(by cases e)) fun fs fd q1 q2 q3=>?_) rfl
            obtain ⟨fs',fd',w1,w2,_,_,w3⟩:=b0n (htt _ _ ht) hk hf
            rw [q1] at w1
            cases w1
            rw [q2] at w2
            cases w2
            rw [q3] at w3
            cases w3
          · trivial
        · trivial
      · trivial
    · trivial
  · rename_i T x y ho
    split
    · rename_i kd i ti s hy ht hx
      split
      · rename_i hk
        exact fun H=>r9 (c1a ho hy hx h (htt _ _ ht) hk H) rfl
      · trivial
    · rename_i kd i ti xs hy ht hx
      split
      · rename_i m e sz hk
        split
        · rename_i te ls hte hls
          split
          · rename_i v hv
            exact fun H=>r9 (b22 ho hy hx h (htt _ _ ht) hk (htt _ _ hte) H.1 hls hv H.2.1 H.2.2) rfl
          · trivial
        · trivial
      · trivial
    · trivial
  · rename_i T x lo hi ho
    split
    · rename_i l hh ti hl hh' ht
      split
      · rename_i s hx hk
        exact fun H=>r9 (c1d ho hx h (htt _ _ ht) hk hl hh' H.1 H.2.1 H.2.2) rfl
      · rename_i k xs e s1 hx hk
        split
        · rename_i h1
          have h1:=Nat.eq_of_beq_eq_true h1
          subst h1
          exact fun H=>r9 (a7d ho (.inl hx) h (htt _ _ ht) hk hl hh' H.1 H.2.1 H.2.2) rfl
        · trivial
      · rename_i k xs e s1 hx hk
        split
        · rename_i h1
          have h1:=Nat.eq_of_beq_eq_true h1
          subst h1
          exact fun H=>r9 (a7d ho (.inr hx) h (htt _ _ ht) hk hl hh' H.1 H.2.1 H.2.2) rfl
        · trivial
      · rename_i b s i n c e s' hx hk
        rintro ⟨rfl,h1,h2,h3,h4,h5⟩
        exact r9 (c1c ho hx h (htt _ _ ht) hk h1 hl hh' h2 h3 h4 h5) rfl
      · rename_i xs m e sz hx hk
        split
        · split
          · rename_i hss
            exact r9 (b23 ho hx h (htt _ _ ht) hk (d4i (by assumption)) (by assumption) hss) rfl
          · trivial
        · trivial
      · trivial
    · trivial
  · rename_i T x y ho
    split
    · rename_i kl l kc c ti hx hy ht
      split
      · rename_i e sz hk
        split
        · rename_i te hte
          split
          · rename_i zs hz
            rintro ⟨h1,h2,h3,h4⟩
            exact ⟨d3k ho hx hy h nb (htt _ _ ht) hk h1 (htt _ _ hte) hz h2 h3 h4,(fun _ _ h=>by cases h;rfl),(fun _ _ h=>by cases h)⟩
          · trivial
        · trivial
      · trivial
    · trivial
  · rename_i T parts ho
    split
    · rename_i ti ht
      split
      · rename_i zs hz
        split
        · rename_i ls hls hp h1
          exact r9 (c9g ho h (htt _ _ ht) hp hz h1 hls) rfl
        · trivial
      · trivial
    · trivial
  · rename_i T len parts ho
    split
    · rename_i ti ht
      split
      · rename_i e sz hk
        split
        · rename_i te hte
          split
          · rename_i zs he hz hl
            have he:=Nat.eq_of_beq_eq_true he
            subst he
            have hp:parts.toList= []:=by
              cases hpp:parts.toList with
              | nil=>rfl
              | cons p r =>
                rw [hpp] at hl
                obtain ⟨i,x⟩:=p
                simp only [a0y] at hl
                split at hl
                · split at hl
                  · cases hl
                  · cases hl
                · cases hl
            exact fun h1=>⟨a9n ho h (htt _ _ ht) hk h1 hp nb,(fun _ _ h=>by cases h;rfl),(fun _ _ h=>by cases h)⟩
          · rename_i zs lss he hz hl
            rintro ⟨h1,h2,h3,h4,h5⟩
            have h2':∀ls∈lss,s8 ls=sz∧ls.all i7.clB=true:=fun ls hls=>by
              have:=List.all_eq_true.1 h2 ls hls
              rw [Bool.and_eq_true] at this
              exact ⟨by simpa using this.1,this.2⟩
            exact r9 (b0r ho h (htt _ _ ht) hk h1 (htt _ _ hte) hz hl (fun ls hls=>(h2' ls hls).1) (fun ls hls=>d5o (h2' ls hls).2) h3 h4 h5) rfl
          · trivial
        · trivial
      · trivial
    · trivial
  · rename_i fn first captured ho
    split
    · rename_i fs cs h1 h2
      exact r9 (c1b ho h1 h2 h) rfl
    · trivial
  · rename_i cl ho
    obtain ⟨cal,args,ats⟩:=cl
    unfold a33
    split
    · rename_i f hf
      dsimp only at hf
      subst hf
      exact c3m ho
    · rename_i t hf
      dsimp only at hf
      subst hf
      split
      · rename_i f fs cs ht
        split
        · rename_i h1 h2
          exact c53 ho ht h1 h2
        · trivial
      · trivial
    · rename_i hf
      dsimp only at hf
      subst hf
      split
      · rename_i x T hx hT
        have e1:args=#[x]:=by rw [←Array.toList_inj];exact hx
        have e2:ats=#[T]:=by rw [←Array.toList_inj];exact hT
        subst e1 e2
        split
        · rename_i s ti hs ht
          split
          · rename_i hk
            exact r9 (c0k ho rfl (by rw [hs];rfl) h (htt _ _ ht) (.inl ⟨hk,s,hs⟩)) rfl
          · trivial
        · rename_i ti ht hns
          split
          · rename_i n e sz hn hk
            refine r9 (c0k ho rfl hn h (htt _ _ ht) (.inr ⟨⟨e,sz,hk⟩,fun ⟨s,hs⟩=>?_⟩)) rfl
            exact hns s hs
          · trivial
        · trivial
      · trivial
    · rename_i hf
      dsimp only at hf
      subst hf
      split
      · rename_i x y hx
        have e1:args=#[x,y]:=by rw [←Array.toList_inj];exact hx
        subst e1
        split
        · rename_i k a k' b hx hy
          split
          · rename_i e
            have e:=b1t e
            subst e
            exact r9 (d7d ho hx hy h) rfl
          · trivial
        · trivial
      · trivial
    · rename_i hf
      dsimp only at hf
      subst hf
      split
      · rename_i x y hx
        have e1:args=#[x,y]:=by rw [←Array.toList_inj];exact hx
        subst e1
        split
        · rename_i k a k' b hx hy
          split
          · rename_i e
            have e:=b1t e
            subst e
            exact r9 (d7c ho hx hy h) rfl
          · trivial
        · trivial
      · trivial
    · trivial
  · trivial
def y8:List Prop→Prop
  | []=>True
  | p :: ps=>p∧y8 ps
theorem f9:y8 []:=trivial
theorem f6 {p:Prop} {ps:List Prop} (h:p) (hs:y8 ps):y8 (p :: ps):=⟨h,hs⟩
inductive Out where
  | done (ps:List Prop) (st:St) (sh:List Sh)
  | call (ps:List Prop) (f:FuncId) (xs:List AV) (dst:Option Tmp) (rest:List Oper) (st:St) (sh:List Sh)
  | guard (ps:List Prop) (b want:Bool) (d:Nat) (o:Oper) (rest:List Oper) (st:St) (sh:List Sh)
  | hand (ps:List Prop) (o:Oper) (rest:List Oper) (st:St) (sh:List Sh)
  | bad
section
variable (tt:TypeId→Option TyI) (nb0:Nat)
def b6g (o:Oper) (rest:List Oper) (st:St) (sh:List Sh) (ps:List Prop) (go:St→List Sh→List Prop→Out):Res→Out
  | .val it=>go (st.step o.dst it) (sh++ [⟨it.reads,it.eff.sh⟩]) ps
  | .ok pre it=>go (st.step o.dst it) (sh++ [⟨it.reads,it.eff.sh⟩]) (pre :: ps)
  | .call f xs=>.call ps f xs o.dst rest st sh
  | .hand=>.hand ps o rest st sh
  | .bad=>.bad
def a0c (o:Oper) (rest:List Oper) (st:St) (sh:List Sh) (ps:List Prop) (go:St→List Sh→List Prop→Out):Out:=
  b6g o rest st sh ps go (a7j tt nb0 o (a1o st.t) st.h st.nb)
def b3z:List Oper→Nat→Option Tmp
  | [],_=>none
  | o :: _,0=>o.dst
  | _ :: r,n+1=>b3z r n
theorem d0u:∀(l:List Oper) (j:Nat),b3z l j=(l[j]?).bind (·.dst)
  | [],_=>rfl
  | _ :: _,0=>rfl
  | _ :: r,j+1=>by simp only [b3z,d0u r j,List.getElem?_cons_succ]
def c5h (o:Oper) (rest:List Oper) (st:St) (sh:List Sh) (ps:List Prop) (want:Bool) (d:Nat) (go:St→List Sh→List Prop→Out):AV→Out
  | .one (.v (.bool b))=>.guard ps b want d o rest st sh
  | .tup []=>go (st.put o.dst (.tup [])) (sh++ [⟨[],none⟩]) ps
  | _=>.bad
def c90 (o:Oper) (rest:List Oper) (st:St) (sh:List Sh) (ps:List Prop) (want:Bool) (go:St→List Sh→List Prop→Out):Option Tmp→Out
  | some d=>c5h o rest st sh ps want d go (st.t d)
  | none=>.bad
def c9z (ops:Array Oper) (o:Oper) (rest:List Oper) (st:St) (sh:List Sh) (ps:List Prop) (go:St→List Sh→List Prop→Out):Option (Nat×Bool)→Out
  | none=>a0c tt nb0 o rest st sh ps go
  | some (j,want)=>c90 o rest st sh ps want go (b3z ops.toList j)
def n9 (ops:Array Oper):List Oper→St→List Sh→List Prop→Out
  | [],st,sh,ps=>.done ps st sh
  | o :: rest,st,sh,ps=>c9z tt nb0 ops o rest st sh ps (n9 ops rest) o.guard
end
section
variable {tt:TypeId→Option TyI} {nb0:Nat} {o:Oper} {rest:List Oper} {st:St} {sh:List Sh} {ps:List Prop} {go:St→List Sh→List Prop→Out} {ops:Array Oper}
theorem a18 {it:b8b}:b6g o rest st sh ps go (.val it)=go (st.step o.dst it) (sh++ [⟨it.reads,it.eff.sh⟩]) ps:=rfl
theorem a2u {pre:Prop} {it:b8b}:b6g o rest st sh ps go (.ok pre it)=go (st.step o.dst it) (sh++ [⟨it.reads,it.eff.sh⟩]) (pre :: ps):=rfl
theorem a1l {f:FuncId} {xs:List AV}:b6g o rest st sh ps go (.call f xs)= .call ps f xs o.dst rest st sh:=rfl
theorem a1m:b6g o rest st sh ps go .hand= .hand ps o rest st sh:=rfl
theorem a17:b6g o rest st sh ps go .bad= .bad:=rfl
theorem a14:c9z tt nb0 ops o rest st sh ps go none=a0c tt nb0 o rest st sh ps go:=rfl
theorem a15 {j:Nat} {want:Bool}:c9z tt nb0 ops o rest st sh ps go (some (j,want))=c90 o rest st sh ps want go (b3z ops.toList j):=rfl
theorem a16 {want:Bool} {d:Nat}:c90 o rest st sh ps want go (some d)=c5h o rest st sh ps want d go (st.t d):=rfl
theorem a5k {want b:Bool} {d:Nat}:c5h o rest st sh ps want d go (.one (.v (.bool b)))= .guard ps b want d o rest st sh:=rfl
theorem a5l {want:Bool} {d:Nat}:c5h o rest st sh ps want d go (.tup [])=go (st.put o.dst (.tup [])) (sh++ [⟨[],none⟩]) ps:=rfl
end
section
variable (P:Program) (G:World→Prop) (nb0:Nat) (ops:Array Oper)
def St.after (st:St) (d:y5):St:=match d.it with
  | some it=>st.step d.dst it
  | none=>st.put d.dst (.tup [])
def b81:List Oper→St→List y5→Prop
  | [],_,ds=>ds= []
  | o :: rest, st, ds => ∃ d ds', ds = d :: ds' ∧ d.dst = o.dst ∧
    (∀it,d.it=some it→a1k ops o st.t true∧n4 P G o (a1o st.t) st.h it∧(∀id bx,it.eff= .new id bx→id=st.nb)∧(∀id bx,it.eff= .set id bx→nb0≤id))∧
    (d.it=none→a1k ops o st.t false)∧b81 rest (st.after d) ds'
def y5.sh (d:y5):Sh:=⟨d.reads,d.eff.sh⟩
def c2u (H:Oper→List Oper→St→List Sh→Prop) (rest:List Oper) (st:St) (sh:List Sh) (K:St→List Sh→Prop):Prop:=
  ∃pre post ds,rest=pre++post∧b81 P G nb0 ops pre st ds∧((post= []∧K (ds.foldl St.after st) (sh++ds.map y5.sh))∨
    ∃o r,post=o :: r∧a1k ops o (ds.foldl St.after st).t true∧H o r (ds.foldl St.after st) (sh++ds.map y5.sh))
def OneK (H:Oper→List Oper→St→List Sh→Prop) (o:Oper) (rest:List Oper) (st:St) (sh:List Sh) (K:St→List Sh→Prop):Prop:=
  (∃it,d3u P G nb0 o (a1o st.t) st.h st.nb it∧c2u P G nb0 ops H rest (st.step o.dst it) (sh++ [⟨it.reads,it.eff.sh⟩]) K)∨H o rest st sh
def t8 (H:Oper→List Oper→St→List Sh→Prop) (out:Out) (K:St→List Sh→Prop):Prop:=match out with
  | .done ps st sh=>y8 ps∧K st sh
  | .call ps f xs dst rest st sh => y8 ps ∧ ((∃ it : b8b, (∀ o, a5j P o (a1o st.t) f xs → d3u P G nb0 o (a1o st.t) st.h st.nb it) ∧ c2u P G nb0 ops H rest (st.step dst it) (sh ++ [⟨it.reads, it.eff.sh⟩]) K) ∨
    ∀o:Oper,o.dst=dst→a5j P o (a1o st.t) f xs→H o rest st sh)
  | .guard ps b want d o rest st sh=>y8 ps∧(st.t d= .one (.v (.bool b))→(b=want→OneK P G nb0 ops H o rest st sh K)∧(b= !want→c2u P G nb0 ops H rest (st.put o.dst (.tup [])) (sh++ [⟨[],none⟩]) K))
  | .hand ps o rest st sh=>y8 ps∧OneK P G nb0 ops H o rest st sh K
  | .bad=>False
end
def Is {α:Type} (x y:α):Prop:=x=y
theorem Is.refl {α:Type} (x:α):Is x x:=rfl
theorem d01 {P:Program} {G:World→Prop} {nb0:Nat} {ops:Array Oper} {H:Oper→List Oper→St→List Sh→Prop} {out out':Out} {K:St→List Sh→Prop} (e:Is out out') (h:t8 P G nb0 ops H out' K):t8 P G nb0 ops H out K:=by
  have e:out=out':=e
  rw [e];exact h
theorem c7m {t:Nat→AV} {d:Nat} {x:AV} (h:t d=x):upd t d x=t:=by
  funext n;rw [c0v];split
  · rename_i e;subst e;exact h.symm
  · rfl
section
variable {P:Program} {G:World→Prop} {nb0:Nat} {ops:Array Oper} {tt:TypeId→Option TyI} {H:Oper→List Oper→St→List Sh→Prop}
theorem b6y (htt:a2e P tt) {o:Oper} {rest:List Oper} {st:St} {sh:List Sh} {ps:List Prop} {K:St→List Sh→Prop}
    (ih:∀st sh ps,t8 P G nb0 ops H (n9 tt nb0 ops rest st sh ps) K→y8 ps∧c2u P G nb0 ops H rest st sh K)
    (h:t8 P G nb0 ops H (a0c tt nb0 o rest st sh ps (n9 tt nb0 ops rest)) K):y8 ps∧OneK P G nb0 ops H o rest st sh K:=by
  have hs:=c5i (P:=P) (G:=G) htt (nb0:=nb0) o (a1o st.t) st.h st.nb
  unfold a0c at h
  generalize e:a7j tt nb0 o (a1o st.t) st.h st.nb=re at h hs
  cases re with
  | val it =>
    obtain ⟨h1,h2⟩:=ih _ _ _ h
    exact ⟨h1,.inl ⟨it,hs,h2⟩⟩
  | ok pre it =>
    obtain ⟨h1,h2⟩:=ih _ _ _ h
    exact ⟨h1.2,.inl ⟨it,hs h1.1,h2⟩⟩
  | call f xs =>
    obtain ⟨h0,⟨it,h1,h3⟩|h⟩:=h
    · exact ⟨h0,.inl ⟨it,h1 _ hs,h3⟩⟩
    · exact ⟨h0,.inr (h _ rfl hs)⟩
  | hand=>exact h
  | bad=>exact h.elim
theorem c5g {o:Oper} {rest:List Oper} {st:St} {sh:List Sh} {K:St→List Sh→Prop} (hw:a1k ops o st.t true) (h:OneK P G nb0 ops H o rest st sh K):c2u P G nb0 ops H (o :: rest) st sh K:=by
  rcases h with ⟨it,h1,pre,post,ds,rfl,h5,h6⟩|h
  · refine ⟨o :: pre,post,⟨o.dst,some it⟩:: ds,rfl,⟨_,_,rfl,rfl,fun it' e=>?_,(fun e=>(by cases e)),h5⟩,?_⟩
    · cases e;exact ⟨hw,h1.sound,h1.new,h1.set⟩
    · simpa [y5.sh,y5.reads,y5.eff,St.after] using h6
  · exact ⟨[],o :: rest,[],rfl,rfl,.inr ⟨o,rest,rfl,hw,by simpa using h⟩⟩
theorem c1m {o:Oper} {rest:List Oper} {st:St} {sh:List Sh} {K:St→List Sh→Prop} (hw:a1k ops o st.t false) (h:c2u P G nb0 ops H rest (st.put o.dst (.tup [])) (sh++ [⟨[],none⟩]) K):c2u P G nb0 ops H (o :: rest) st sh K:=by
  obtain ⟨pre,post,ds,rfl,h5,h6⟩:=h
  refine ⟨o :: pre,post,⟨o.dst,none⟩:: ds,rfl,⟨_,_,rfl,rfl,(fun it' e=>(by cases e)),fun _=>hw,h5⟩,?_⟩
  simpa [y5.sh,y5.reads,y5.eff,St.after,Eff.sh] using h6
theorem a0j (htt:a2e P tt) {K:St→List Sh→Prop}:∀(rest:List Oper) (st:St) (sh:List Sh) (ps:List Prop),t8 P G nb0 ops H (n9 tt nb0 ops rest st sh ps) K→y8 ps∧c2u P G nb0 ops H rest st sh K
  | [],st,sh,ps,h=>⟨h.1,[],[],[],rfl,rfl,.inl ⟨rfl,by simpa [n9] using h.2⟩⟩
  | o :: rest, st, sh, ps, h => by
    unfold n9 at h
    unfold c9z at h
    split at h
    · rename_i hg
      obtain ⟨h1,h2⟩:=b6y htt (a0j htt rest) h
      exact ⟨h1,c5g (by simp [a1k,hg]) h2⟩
    · rename_i j want hg
      unfold c90 at h
      split at h
      · rename_i d hd
        rw [d0u,Array.getElem?_toList] at hd
        unfold c5h at h
        split at h
        · rename_i b hb
          obtain ⟨h0,hyn⟩:=h
          obtain ⟨hy,hn⟩:=hyn hb
          refine ⟨h0,?_⟩
          by_cases e:b=want
          · subst e
            have h:=hy rfl
            exact c5g (by simp only [a1k,hg];exact ⟨d,b,hd,.inl ⟨hb,by simp⟩⟩) h
          · have e':b= !want:=by cases b <;> cases want <;> simp_all
            subst e'
            have h:=hn rfl
            exact c1m (by simp only [a1k,hg];exact ⟨d,_,hd,.inl ⟨hb,by cases want <;> rfl⟩⟩) h
        · rename_i hu
          obtain ⟨h0,h⟩:=a0j htt rest _ _ _ h
          exact ⟨h0,c1m (by simp only [a1k,hg];exact ⟨d,false,hd,.inr ⟨hu,by simp⟩⟩) h⟩
        · exact h.elim
      · exact h.elim
variable {K:St→List Sh→Prop} {ps:List Prop} {rest:List Oper} {st:St} {sh:List Sh}
theorem d2p (hp:y8 ps) (h:K st sh):t8 P G nb0 ops H (.done ps st sh) K:=⟨hp,h⟩
theorem a2v {f:FuncId} {xs ys:List AV} {r:AV} {dst:Option Tmp} (htt:a2e P tt) (hc:Pure P G f ys r) (hs:a6v xs ys) (hp:y8 ps) (h:t8 P G nb0 ops H (n9 tt nb0 ops rest (st.step dst { val:=r }) (sh++ [⟨[],none⟩]) []) K):t8 P G nb0 ops H (.call ps f xs dst rest st sh) K:=
  ⟨hp,.inl ⟨{ val:=r },fun o ho=>r9 (c2j hc ho hs st.h) rfl,(a0j htt _ _ _ _ h).2⟩⟩
theorem c8w {f:FuncId} {xs ys:List AV} {r:AV} {dst:Option Tmp} (htt:a2e P tt) (hc:c5d P f ys r) (hs:a6v xs ys) (hp:y8 ps) (h:t8 P G nb0 ops H (n9 tt nb0 ops rest (st.step dst { val:=r }) (sh++ [⟨[],none⟩]) []) K):t8 P G nb0 ops H (.call ps f xs dst rest st sh) K:=
  ⟨hp,.inl ⟨{ val:=r },fun o ho=>r9 (c9h hc ho hs st.h) rfl,(a0j htt _ _ _ _ h).2⟩⟩
theorem c8v {f:FuncId} {xs ys:List AV} {sz m n c':Nat} {g:Nat→List i7} {dst:Option Tmp} (htt:a2e P tt) (hc:b6e P G f ys sz m n c' g) (hs:a6v xs ys) (hp:y8 ps)
    (h:t8 P G nb0 ops H (n9 tt nb0 ops rest (st.step dst { val:=.one (.own st.nb sz 0 n c'),eff:=.new st.nb ⟨sz,m,g,false⟩}) (sh++ [⟨[],(Eff.new st.nb ⟨sz,m,g,false⟩).sh⟩]) []) K):t8 P G nb0 ops H (.call ps f xs dst rest st sh) K:=
  ⟨hp,.inl ⟨{ val:=.one (.own st.nb sz 0 n c'),eff:=.new st.nb ⟨sz,m,g,false⟩},fun o ho=>⟨c9i hc ho hs st.h,(fun id bx e=>by cases e;rfl),(fun id bx e=>(by cases e))⟩,(a0j htt _ _ _ _ h).2⟩⟩
theorem b9z {f:FuncId} {xs ys:List AV} {bx bx':Box} {r:AV} {dst:Option Tmp} (b:Nat) (htt:a2e P tt) (hc:b0v P G f bx ys r bx') (hs:a6v xs (ys.map (d7j b))) (hb:st.h b=some bx) (hnb:nb0≤b) (hp:y8 ps)
    (h:t8 P G nb0 ops H (n9 tt nb0 ops rest (st.step dst { val:=r,eff:=.set b bx' }) (sh++ [⟨[],(Eff.set b bx').sh⟩]) []) K):t8 P G nb0 ops H (.call ps f xs dst rest st sh) K:=
  ⟨hp,.inl ⟨{ val:=r,eff:=.set b bx' },fun o ho=>⟨c9j hc ho hs st.h hb,(fun id bx e=>(by cases e)),(fun id bx e=>by cases e;exact hnb)⟩,(a0j htt _ _ _ _ h).2⟩⟩
theorem c6v {o:Oper} {b want:Bool} {d:Nat} (htt:a2e P tt) (e:b=want) (hp:y8 ps) (h:t8 P G nb0 ops H (a0c tt nb0 o rest st sh [] (n9 tt nb0 ops rest)) K):t8 P G nb0 ops H (.guard ps b want d o rest st sh) K:=
  ⟨hp,fun _=>⟨fun _=>(b6y htt (a0j htt rest) h).2,fun e'=>by rw [e] at e';cases want <;> cases e'⟩⟩
theorem d02 {o:Oper} {b want:Bool} {d:Nat} (htt:a2e P tt) (e:(!want)=b) (hp:y8 ps) (h:t8 P G nb0 ops H (n9 tt nb0 ops rest (st.put o.dst (.tup [])) (sh++ [⟨[],none⟩]) []) K):t8 P G nb0 ops H (.guard ps b want d o rest st sh) K:=
  ⟨hp,fun _=>⟨(fun e'=>by rw [←e] at e';cases want <;> cases e'),fun _=>(a0j htt _ _ _ _ h).2⟩⟩
theorem d87 {o:Oper} {d:Nat} (htt:a2e P tt) (hp:y8 ps) (h:t8 P G nb0 ops H (a0c tt nb0 o rest st sh [] (n9 tt nb0 ops rest)) K):t8 P G nb0 ops H (.guard ps true true d o rest st sh) K:=c6v htt rfl hp h
theorem d83 {o:Oper} {d:Nat} (htt:a2e P tt) (hp:y8 ps) (h:t8 P G nb0 ops H (a0c tt nb0 o rest st sh [] (n9 tt nb0 ops rest)) K):t8 P G nb0 ops H (.guard ps false false d o rest st sh) K:=c6v htt rfl hp h
theorem d86 {o:Oper} {d:Nat} (htt:a2e P tt) (hp:y8 ps) (h:t8 P G nb0 ops H (n9 tt nb0 ops rest (st.put o.dst (.tup [])) (sh++ [⟨[],none⟩]) []) K):t8 P G nb0 ops H (.guard ps true false d o rest st sh) K:=d02 htt rfl hp h
theorem d84 {o:Oper} {d:Nat} (htt:a2e P tt) (hp:y8 ps) (h:t8 P G nb0 ops H (n9 tt nb0 ops rest (st.put o.dst (.tup [])) (sh++ [⟨[],none⟩]) []) K):t8 P G nb0 ops H (.guard ps false true d o rest st sh) K:=d02 htt rfl hp h
theorem d00 {o:Oper} {b want:Bool} {d:Nat} (htt:a2e P tt) (hp:y8 ps) (hy:b=want→t8 P G nb0 ops H (a0c tt nb0 o rest { st with t:=upd st.t d (.one (.v (.bool want))) } sh [] (n9 tt nb0 ops rest)) K)
    (hn:b= !want→t8 P G nb0 ops H (n9 tt nb0 ops rest (({ st with t:=upd st.t d (.one (.v (.bool (!want)))) }:St).put o.dst (.tup [])) (sh++ [⟨[],none⟩]) []) K):t8 P G nb0 ops H (.guard ps b want d o rest st sh) K:=
  ⟨hp,fun hb=>⟨(fun e=>by
    have:=hy e
    rw [c7m (by rw [hb,e])] at this
    exact (b6y htt (a0j htt rest) this).2),(fun e=>by
    have:=hn e
    rw [c7m (by rw [hb,e])] at this
    exact (a0j htt _ _ _ _ this).2)⟩⟩
theorem b5c {o:Oper} {b:Bool} {d:Nat} (htt:a2e P tt) (hp:y8 ps) (hy:b=true→t8 P G nb0 ops H (a0c tt nb0 o rest { st with t:=upd st.t d (.one (.v (.bool true))) } sh [] (n9 tt nb0 ops rest)) K)
    (hn:b=false→t8 P G nb0 ops H (n9 tt nb0 ops rest (({ st with t:=upd st.t d (.one (.v (.bool false))) }:St).put o.dst (.tup [])) (sh++ [⟨[],none⟩]) []) K):t8 P G nb0 ops H (.guard ps b true d o rest st sh) K:=d00 htt hp hy hn
theorem b5b {o:Oper} {b:Bool} {d:Nat} (htt:a2e P tt) (hp:y8 ps) (hy:b=false→t8 P G nb0 ops H (a0c tt nb0 o rest { st with t:=upd st.t d (.one (.v (.bool false))) } sh [] (n9 tt nb0 ops rest)) K)
    (hn:b=true→t8 P G nb0 ops H (n9 tt nb0 ops rest (({ st with t:=upd st.t d (.one (.v (.bool true))) }:St).put o.dst (.tup [])) (sh++ [⟨[],none⟩]) []) K):t8 P G nb0 ops H (.guard ps b false d o rest st sh) K:=d00 htt hp hy hn
theorem c4c {o:Oper} {p:Prop} [Decidable p] {d:Nat} (htt:a2e P tt) (hp:y8 ps) (hy:p→t8 P G nb0 ops H (a0c tt nb0 o rest { st with t:=upd st.t d (.one (.v (.bool true))) } sh [] (n9 tt nb0 ops rest)) K)
    (hn:¬p→t8 P G nb0 ops H (n9 tt nb0 ops rest (({ st with t:=upd st.t d (.one (.v (.bool false))) }:St).put o.dst (.tup [])) (sh++ [⟨[],none⟩]) []) K):t8 P G nb0 ops H (.guard ps (decide p) true d o rest st sh) K:=b5c htt hp (fun h=>hy (of_decide_eq_true h)) (fun h=>hn (of_decide_eq_false h))
theorem c4a {o:Oper} {x y:Int} {d:Nat} (htt:a2e P tt) (hp:y8 ps) (hy:x=y→t8 P G nb0 ops H (a0c tt nb0 o rest { st with t:=upd st.t d (.one (.v (.bool true))) } sh [] (n9 tt nb0 ops rest)) K)
    (hn:¬x=y→t8 P G nb0 ops H (n9 tt nb0 ops rest (({ st with t:=upd st.t d (.one (.v (.bool false))) }:St).put o.dst (.tup [])) (sh++ [⟨[],none⟩]) []) K):t8 P G nb0 ops H (.guard ps (x == y) true d o rest st sh) K:=b5c htt hp (fun h=>hy (eq_of_beq h)) (fun h=>hn (ne_of_beq_false h))
theorem c4b {o:Oper} {x y:Int} {d:Nat} (htt:a2e P tt) (hp:y8 ps) (hy:¬x=y→t8 P G nb0 ops H (a0c tt nb0 o rest { st with t:=upd st.t d (.one (.v (.bool true))) } sh [] (n9 tt nb0 ops rest)) K)
    (hn:x=y→t8 P G nb0 ops H (n9 tt nb0 ops rest (({ st with t:=upd st.t d (.one (.v (.bool false))) }:St).put o.dst (.tup [])) (sh++ [⟨[],none⟩]) []) K):t8 P G nb0 ops H (.guard ps (x != y) true d o rest st sh) K:=b5c htt hp (fun h=>hy ((fun h=>by simpa using h) h)) (fun h=>hn ((fun h=>by simpa using h) h))
theorem c3z {o:Oper} {p:Prop} [Decidable p] {d:Nat} (htt:a2e P tt) (hp:y8 ps) (hy:¬p→t8 P G nb0 ops H (a0c tt nb0 o rest { st with t:=upd st.t d (.one (.v (.bool false))) } sh [] (n9 tt nb0 ops rest)) K)
    (hn:p→t8 P G nb0 ops H (n9 tt nb0 ops rest (({ st with t:=upd st.t d (.one (.v (.bool true))) }:St).put o.dst (.tup [])) (sh++ [⟨[],none⟩]) []) K):t8 P G nb0 ops H (.guard ps (decide p) false d o rest st sh) K:=b5b htt hp (fun h=>hy (of_decide_eq_false h)) (fun h=>hn (of_decide_eq_true h))
theorem c3x {o:Oper} {x y:Int} {d:Nat} (htt:a2e P tt) (hp:y8 ps) (hy:¬x=y→t8 P G nb0 ops H (a0c tt nb0 o rest { st with t:=upd st.t d (.one (.v (.bool false))) } sh [] (n9 tt nb0 ops rest)) K)
    (hn:x=y→t8 P G nb0 ops H (n9 tt nb0 ops rest (({ st with t:=upd st.t d (.one (.v (.bool true))) }:St).put o.dst (.tup [])) (sh++ [⟨[],none⟩]) []) K):t8 P G nb0 ops H (.guard ps (x == y) false d o rest st sh) K:=b5b htt hp (fun h=>hy (ne_of_beq_false h)) (fun h=>hn (eq_of_beq h))
theorem c3y {o:Oper} {x y:Int} {d:Nat} (htt:a2e P tt) (hp:y8 ps) (hy:x=y→t8 P G nb0 ops H (a0c tt nb0 o rest { st with t:=upd st.t d (.one (.v (.bool false))) } sh [] (n9 tt nb0 ops rest)) K)
    (hn:¬x=y→t8 P G nb0 ops H (n9 tt nb0 ops rest (({ st with t:=upd st.t d (.one (.v (.bool true))) }:St).put o.dst (.tup [])) (sh++ [⟨[],none⟩]) []) K):t8 P G nb0 ops H (.guard ps (x != y) false d o rest st sh) K:=b5b htt hp (fun h=>hy ((fun h=>by simpa using h) h)) (fun h=>hn ((fun h=>by simpa using h) h))
theorem c6u {f:FuncId} {xs:List AV} {dst:Option Tmp} (hp:y8 ps) (h:∀o:Oper,o.dst=dst→a5j P o (a1o st.t) f xs→H o rest st sh):t8 P G nb0 ops H (.call ps f xs dst rest st sh) K:=⟨hp,.inr h⟩
theorem c8x {o:Oper} (hp:y8 ps) (h:H o rest st sh):t8 P G nb0 ops H (.hand ps o rest st sh) K:=⟨hp,.inr h⟩
end
-- axioms of a0j
end Go.Ax
end
section
namespace Go.Ax
open Go.RowKit (Below)
def b3w (acc:List Nat) (o:Oper):Nat:=o.after.toList.foldl (fun s e=>if Region.binds .any e then s ||| (2 ^ e.on ||| acc.getD e.on 0) else s) 0
def a5w:List Oper→List Nat→List Nat
  | [],acc=>acc
  | o :: r,acc=>a5w r (acc++ [b3w acc o])
def b0z (ms:List Nat) (i j:Nat):Bool:=(ms.getD i 0).testBit j
theorem b48:∀(os:List Oper) (acc:List Nat),∃r,a5w os acc=acc++r∧r.length=os.length
  | [],acc=>⟨[],by simp [a5w],rfl⟩
  | o :: os, acc => by
    obtain ⟨r,h1,h2⟩:=b48 os (acc++ [b3w acc o])
    exact ⟨b3w acc o :: r,by simp [a5w,h1],by simp [h2]⟩
theorem c2d:∀(os:List Oper) (acc:List Nat) (i:Nat) (o:Oper),os[i]?=some o→∃pre,(∀j,j < acc.length+i→(a5w os acc).getD j 0=pre.getD j 0)∧pre.length=acc.length+i∧(a5w os acc).getD (acc.length+i) 0=b3w pre o
  | [],_,_,_,h=>by simp at h
  | o' :: os, acc, 0, o, h => by
    have:o'=o:=by simpa using h
    subst this
    obtain ⟨r,h1,h2⟩:=b48 os (acc++ [b3w acc o'])
    refine ⟨acc,fun j hj=>?_,by simp,?_⟩
    · rw [a5w,h1]
      simp at hj
      simp [List.getD_eq_getElem?_getD,List.getElem?_append,hj]
    · rw [a5w,h1]
      simp [List.getD_eq_getElem?_getD]
  | o' :: os, acc, i + 1, o, h => by
    obtain ⟨pre,h1,h2,h3⟩:=c2d os (acc++ [b3w acc o']) i o (by simpa using h)
    have e:(acc++ [b3w acc o']).length+i=acc.length+(i+1):=by simp;omega
    rw [e] at h1 h2 h3
    exact ⟨pre,h1,h2,h3⟩
theorem b9p (acc:List Nat):∀(es:List Edge) (s j:Nat),(es.foldl (fun s e=>if Region.binds .any e then s ||| (2 ^ e.on ||| acc.getD e.on 0) else s) s).testBit j=true→
    s.testBit j=true∨∃e∈es,Region.binds .any e=true∧(e.on=j∨(acc.getD e.on 0).testBit j=true)
  | [],s,j,h=>.inl h
  | e :: es, s, j, h => by
    simp only [List.foldl_cons] at h
    rcases b9p acc es _ j h with h|⟨e',h1,h2⟩
    · split at h
      · rename_i hb
        simp only [Nat.testBit_or,Bool.or_eq_true,Nat.testBit_two_pow,decide_eq_true_eq] at h
        rcases h with h|h|h
        · exact .inl h
        · exact .inr ⟨e,by simp,hb,.inl h⟩
        · exact .inr ⟨e,by simp,hb,.inr h⟩
      · exact .inl h
    · exact .inr ⟨e',by simp [h1],h2⟩
def c2x (ops:Array Oper):Bool:=ops.toList.zipIdx.all fun (o,i)=>o.after.toList.all fun e=>!Region.binds .any e || decide (e.on < i)
theorem b7s {ops:Array Oper} (h:c2x ops=true):∀(i:Nat) (o:Oper),ops[i]?=some o→∀e∈o.after,Region.binds .any e=true→e.on < i:=by
  intro i o ho e he hb
  simp only [c2x,List.all_eq_true] at h
  have:=h (o,i) (by rw [List.mem_zipIdx_iff_getElem?];simpa using ho) e (by simpa using he)
  simpa [hb] using this
theorem d3x {ops:Array Oper} (hbk:c2x ops=true):∀S:Nat→Bool,(∀(i:Nat) (o:Oper),ops[i]?=some o→S i=true→∀e∈o.after,Region.binds .any e=true→S e.on=true)→
    ∀(i:Nat) (o:Oper),ops[i]?=some o→(∀e∈o.after,Region.binds .any e=true→S e.on=true)→∀j,b0z (a5w ops.toList []) i j=true→S j=true:=by
  intro S hS i
  induction i using Nat.strongRecOn with
  | _ i ih =>
    intro o ho hr j hj
    obtain ⟨pre,h1,h2,h3⟩:=c2d ops.toList [] i o (by simpa using ho)
    simp only [List.length_nil,Nat.zero_add] at h1 h2 h3
    unfold b0z at hj
    rw [h3] at hj
    rcases b9p pre _ _ _ hj with h|⟨e,h4,h5,h6⟩
    · simp at h
    · have he:e∈o.after:=by simpa using h4
      have hlt:=b7s hbk i o ho e he h5
      have hSe:=hr e he h5
      rcases h6 with h6|h6
      · rw [←h6];exact hSe
      · rw [←h1 e.on (by omega)] at h6
        have hlt':e.on < ops.size:=by
          have:i < ops.size:=(Array.getElem?_eq_some_iff.1 ho).1
          omega
        have ho':ops[e.on]?=some ops[e.on]:=by simp [hlt']
        exact ih e.on hlt _ ho' (fun e' he' hb'=>hS e.on _ ho' hSe e' he' hb') j h6
def d1g (N:Nat) (ops:Array Oper) (ms:List Nat):Bool:=
  ops.toList.zipIdx.all fun (o,i)=>
    (match o.dst with|some d=>decide (d < N)|none=>true) &&
    o.op.operands.toList.all a0v &&
    ops.toList.zipIdx.all fun (o',j)=>match o'.dst with
      | some d=>(i == j || o.dst != some d) && (!(o.looksAt ops).contains d || (i == j || ((decide (j < i) && b0z ms i j) || (decide (i < j) && b0z ms j i))))
      | none=>true
def b6m (N:Nat) (ops:Array Oper):Bool:=c2x ops && d1g N ops (a5w ops.toList [])
def b00 (ops:Array Oper) (nb:Nat) (sh:List Sh):Bool:=
  sh.zipIdx.all fun (s,j)=>match s.eff with
    | none=>true
    | some (isNew, b) => (!isNew || decide (nb ≤ b)) &&
      sh.zipIdx.all fun (s',i)=>i == j || !(s'.reads.contains b || (match s'.eff with|some (_,b')=>b' == b|none=>false)) ||
        ((decide (j < i) && b0z (a5w ops.toList []) i j) || (decide (i < j) && b0z (a5w ops.toList []) j i)) && !(isNew && (match s'.eff with|some (n,b')=>n && b' == b|none=>false))
def y5.u:y5:=⟨none,none⟩
theorem b7a {P G nb0 ops}:∀(ds:List y5) (rest:List Oper) (st:St),b81 P G nb0 ops rest st ds→ds.length=rest.length
  | [],[],_,_=>rfl
  | [],_ :: _,_,h=>by obtain ⟨_,_,h,_⟩:=h;cases h
  | _ :: _,[],_,h=>by cases h
  | d :: ds, o :: rest, st, h => by
    obtain ⟨_,_,h1,_,_,_,h2⟩:=h
    cases h1
    simp [b7a ds rest _ h2]
theorem St.after_t (st:St) (d:y5) (n:Nat):(st.after d).t n=if d.dst=some n then d.val else st.t n:=by
  unfold St.after y5.val
  cases hd:d.it with
  | none =>
    simp only [St.put]
    cases d.dst with
    | none=>simp
    | some m =>
      by_cases e:n=m
      · subst e;simp [c0v]
      · have e':¬m=n:=fun h=>e h.symm
        simp [c0v,e,e']
  | some it =>
    simp only [St.step]
    have:(st.put d.dst it.val |>.eff it.eff).t=(st.put d.dst it.val).t:=by unfold St.eff;split <;> rfl
    rw [this]
    simp only [St.put]
    cases d.dst with
    | none=>simp
    | some m=>by_cases e:n=m <;> simp [c0v,e,eq_comm]
theorem St.put_h (st:St) (dst:Option Tmp) (x:AV):(st.put dst x).h=st.h∧(st.put dst x).nb=st.nb:=by cases dst <;> exact ⟨rfl,rfl⟩
theorem St.after_h (st:St) (d:y5) (b:Nat):(st.after d).h b=match d.eff with
    | .new id bx=>if id=b then some bx else st.h b
    | .set id bx=>if id=b then some bx else st.h b
    | .none=>st.h b:=by
  unfold St.after y5.eff
  cases hd:d.it with
  | none=>simp [(St.put_h _ _ _).1]
  | some it =>
    simp only [St.step,St.eff]
    cases he:it.eff <;> simp [d0o,(St.put_h _ _ _).1,eq_comm]
theorem b0y {st:St} {ds:List y5}:∀k,k≤ds.length→∀n,((ds.take k).foldl St.after st).t n=y9 st.t (fun i=>ds.getD i y5.u) (fun _=>true) k n
  | 0,_,n=>rfl
  | k + 1, h, n => by
    have hk:k < ds.length:=by omega
    rw [List.take_succ_eq_append_getElem hk,List.foldl_append,List.foldl_cons,List.foldl_nil,St.after_t,b0y k (by omega) n]
    simp [y9,List.getD_eq_getElem?_getD,hk]
theorem b0x {st:St} {ds:List y5}:∀k,k≤ds.length→∀n,((ds.take k).foldl St.after st).h n=a0n st.h (fun i=>ds.getD i y5.u) (fun _=>true) k n
  | 0,_,n=>rfl
  | k + 1, h, n => by
    have hk:k < ds.length:=by omega
    rw [List.take_succ_eq_append_getElem hk,List.foldl_append,List.foldl_cons,List.foldl_nil,St.after_h,b0x k (by omega) n]
    simp only [a0n,if_true]
    simp only [List.getD_eq_getElem?_getD,List.getElem?_eq_getElem hk,Option.getD_some]
    rfl
theorem c7i {P G nb0 ops}:∀(ds:List y5) (rest:List Oper) (st:St),b81 P G nb0 ops rest st ds→∀(i:Nat) (o:Oper) (d:y5),rest[i]?=some o→ds[i]?=some d→
    d.dst=o.dst∧(∀it,d.it=some it→a1k ops o ((ds.take i).foldl St.after st).t true∧n4 P G o (a1o ((ds.take i).foldl St.after st).t) ((ds.take i).foldl St.after st).h it∧
      (∀id bx,it.eff= .new id bx→id=((ds.take i).foldl St.after st).nb)∧(∀id bx,it.eff= .set id bx→nb0≤id))∧
    (d.it=none→a1k ops o ((ds.take i).foldl St.after st).t false)
  | [],_,_,_,i,_,_,_,h=>by simp at h
  | _ :: _,[],_,h,_,_,_,_,_=>by cases h
  | d' :: ds, o' :: rest, st, h, 0, o, d, h1, h2 => by
    obtain ⟨_,_,h3,h4,h5,h6,_⟩:=h
    cases h3
    obtain rfl:o'=o:=by simpa using h1
    obtain rfl:d'=d:=by simpa using h2
    exact ⟨h4,h5,h6⟩
  | d' :: ds, o' :: rest, st, h, i + 1, o, d, h1, h2 => by
    obtain ⟨_,_,h3,_,_,_,h4⟩:=h
    cases h3
    exact c7i ds rest _ h4 i o d (by simpa using h1) (by simpa using h2)
theorem a9c {P G nb0 ops}:∀(ds:List y5) (rest:List Oper) (st:St),b81 P G nb0 ops rest st ds→st.nb≤(ds.foldl St.after st).nb∧∀d∈ds,∀id bx,d.eff= .new id bx→st.nb≤id∧id < (ds.foldl St.after st).nb
  | [],_,_,_=>⟨Nat.le_refl _,fun _ h=>by cases h⟩
  | _ :: _,[],_,h=>by cases h
  | d :: ds, o :: rest, st, h => by
    obtain ⟨_,_,h3,_,h5,_,h4⟩:=h
    cases h3
    obtain ⟨h6,h7⟩:=a9c ds rest _ h4
    have hle:st.nb≤(st.after d).nb∧∀id bx,d.eff= .new id bx→st.nb=id∧id < (st.after d).nb:=by
      unfold St.after y5.eff
      cases hd:d.it with
      | none=>exact ⟨by simp [(St.put_h _ _ _).2],fun _ _ h=>(by cases h)⟩
      | some it =>
        obtain ⟨_,_,h8,_⟩:=h5 it hd
        simp only [St.step,St.eff]
        split
        · rename_i he
          exact ⟨by simp [(St.put_h _ _ _).2],fun _ _ h=>by rw [he] at h;cases h⟩
        · rename_i id bx he
          have:=h8 id bx he
          refine ⟨by simp;omega,fun id' bx' h=>?_⟩
          rw [he] at h;cases h
          exact ⟨this.symm,by simp⟩
        · rename_i id bx he
          exact ⟨by simp [(St.put_h _ _ _).2],fun _ _ h=>by rw [he] at h;cases h⟩
    refine ⟨Nat.le_trans hle.1 h6,fun d' hd' id bx he=>?_⟩
    rcases List.mem_cons.1 hd' with rfl|hd'
    · have:=hle.2 id bx he
      exact ⟨by omega,Nat.lt_of_lt_of_le this.2 h6⟩
    · have:=h7 d' hd' id bx he
      exact ⟨Nat.le_trans hle.1 this.1,this.2⟩
theorem d1l {c:Ctx} {ops:Array Oper} {st:St} {ds:List y5} (hnb:c.nb0≤st.nb) (htr:b81 c.P c.G c.ns ops ops.toList st ds) (hd:b6m c.N ops=true) (hb:b00 ops st.nb (ds.map y5.sh)=true) :
    TrOk c ops st.t st.h st.nb (fun i=>ds.getD i y5.u) (b0z (a5w ops.toList [])):=by
  have hlen:ds.length=ops.size:=by rw [b7a ds _ _ htr];simp
  simp only [b6m,Bool.and_eq_true] at hd
  obtain ⟨hbk,hsl⟩:=hd
  have hget:∀i,i < ops.size→∃d,ds[i]?=some d∧ds.getD i y5.u=d:=by
    intro i hi
    have:i < ds.length:=by omega
    exact ⟨ds[i],by simp [this],by simp [List.getD_eq_getElem?_getD,this]⟩
  have hsz:∀(i:Nat) (o:Oper),ops[i]?=some o→i < ops.size:=fun i o h=>(Array.getElem?_eq_some_iff.1 h).1
  have hfact:∀(i:Nat) (o:Oper),ops[i]?=some o→∃d,ds[i]?=some d∧ds.getD i y5.u=d∧d.dst=o.dst∧
      (∀it,d.it=some it→a1k ops o (y9 st.t (fun i=>ds.getD i y5.u) (fun _=>true) i) true∧n4 c.P c.G o (a1o (y9 st.t (fun i=>ds.getD i y5.u) (fun _=>true) i)) (a0n st.h (fun i=>ds.getD i y5.u) (fun _=>true) i) it∧
        (∀id bx,it.eff= .new id bx→id=((ds.take i).foldl St.after st).nb)∧(∀id bx,it.eff= .set id bx→c.ns≤id))∧
      (d.it=none→a1k ops o (y9 st.t (fun i=>ds.getD i y5.u) (fun _=>true) i) false):=by
    intro i o ho
    have hi:=hsz i o ho
    obtain ⟨d,h1,h2⟩:=hget i hi
    obtain ⟨h3,h4,h5⟩:=c7i ds ops.toList st htr i o d (by simpa using ho) h1
    have e1:((ds.take i).foldl St.after st).t=y9 st.t (fun i=>ds.getD i y5.u) (fun _=>true) i:=funext (b0y i (by omega))
    have e2:((ds.take i).foldl St.after st).h=a0n st.h (fun i=>ds.getD i y5.u) (fun _=>true) i:=funext (b0x i (by omega))
    rw [e1,e2] at h4
    rw [e1] at h5
    exact ⟨d,h1,h2,h3,h4,h5⟩
  have hslf:∀(i:Nat) (o:Oper),ops[i]?=some o→(∀d,o.dst=some d→d < c.N)∧(∀x∈o.op.operands,a0v x=true)∧
      ∀(j:Nat) (o':Oper) (d:Tmp),ops[j]?=some o'→o'.dst=some d→(i=j∨o.dst≠some d)∧(d∈o.looksAt ops→i=j∨(j < i∧b0z (a5w ops.toList []) i j=true)∨(i < j∧b0z (a5w ops.toList []) j i=true)):=by
    intro i o ho
    simp only [d1g,List.all_eq_true] at hsl
    have h:=hsl (o,i) (by rw [List.mem_zipIdx_iff_getElem?];simpa using ho)
    simp only [Bool.and_eq_true] at h
    obtain ⟨⟨h1,h2⟩,h3⟩:=h
    refine ⟨fun d hd=>by simpa [hd] using h1,fun x hx=>?_,fun j o' d hj hd=>?_⟩
    · rw [List.all_eq_true] at h2;exact h2 x (by simpa using hx)
    · rw [List.all_eq_true] at h3
      have:=h3 (o',j) (by rw [List.mem_zipIdx_iff_getElem?];simpa using hj)
      simp only [hd,Bool.and_eq_true,Bool.or_eq_true,beq_iff_eq,bne_iff_ne,ne_eq,Bool.not_eq_true',decide_eq_true_eq] at this
      obtain ⟨h4,h5⟩:=this
      refine ⟨h4,fun hm=>?_⟩
      rcases h5 with h5|h5
      · have:(o.looksAt ops).contains d=true:=by simpa using hm
        rw [this] at h5;cases h5
      · exact h5
  have hdst:∀i,i < ops.size→∃o,ops[i]?=some o∧(ds.getD i y5.u).dst=o.dst:=by
    intro i hi
    have ho:ops[i]?=some ops[i]:=by simp [hi]
    obtain ⟨d,_,h2,h3,_⟩:=hfact i _ ho
    exact ⟨_,ho,by rw [h2];exact h3⟩
  have hnew:=a9c ds ops.toList st htr
  have hbox:∀i j b,i < ops.size→j < ops.size→i≠j→(ds.getD j y5.u).eff.id?=some b→(b∈(ds.getD i y5.u).reads∨(ds.getD i y5.u).eff.id?=some b)→
      ((j < i∧b0z (a5w ops.toList []) i j=true)∨(i < j∧b0z (a5w ops.toList []) j i=true))∧
      ¬((∃bx,(ds.getD j y5.u).eff= .new b bx)∧∃bx,(ds.getD i y5.u).eff= .new b bx):=by
    intro i j b hi hj hne he hr
    obtain ⟨di,h1,h2⟩:=hget i hi
    obtain ⟨dj,h3,h4⟩:=hget j hj
    rw [h4] at he;rw [h2] at hr
    rw [h2,h4]
    simp only [b00,List.all_eq_true] at hb
    have h:=hb (dj.sh,j) (by rw [List.mem_zipIdx_iff_getElem?];simp [h3])
    have hsh:∃n,dj.sh.eff=some (n,b)∧((∃bx,dj.eff= .new b bx)→n=true):=by
      unfold y5.sh Eff.sh
      cases hd:dj.eff with
      | none=>rw [hd] at he;cases he
      | new id bx=>rw [hd] at he;simp [Eff.id?] at he;exact ⟨true,by simp [he],fun _=>rfl⟩
      | set id bx=>rw [hd] at he;simp [Eff.id?] at he;exact ⟨false,by simp [he],fun ⟨_,h⟩=>by cases h⟩
    obtain ⟨n,hn,hn'⟩:=hsh
    simp only [hn,Bool.and_eq_true,List.all_eq_true] at h
    have h:=h.2 (di.sh,i) (by rw [List.mem_zipIdx_iff_getElem?];simp [h1])
    simp only [Bool.or_eq_true,beq_iff_eq,Bool.and_eq_true,decide_eq_true_eq,Bool.not_eq_true',Bool.or_eq_false_iff,hne,false_or] at h
    have hc:¬(di.sh.reads.contains b=false∧(match di.sh.eff with|some (_,b')=>b' == b|none=>false)=false):=by
      rintro ⟨h5,h6⟩
      rcases hr with hr|hr
      · have:di.sh.reads.contains b=true:=by simpa [y5.sh] using hr
        rw [this] at h5;cases h5
      · unfold y5.sh Eff.sh at h6
        cases hd:di.eff with
        | none=>rw [hd] at hr;cases hr
        | new id bx=>rw [hd] at hr;simp [Eff.id?] at hr;simp [hd,hr] at h6
        | set id bx=>rw [hd] at hr;simp [Eff.id?] at hr;simp [hd,hr] at h6
    rcases h with h|⟨h,h'⟩
    · exact absurd h hc
    · refine ⟨h,fun ⟨h7,bx,h8⟩=>?_⟩
      rw [hn' h7] at h'
      simp [y5.sh,Eff.sh,h8] at h'
  refine ⟨fun i o ho=>?_,fun i o ho it hit=>?_,fun i o ho hit=>?_,fun i o ho=>(hslf i o ho).2.1,fun i o ho d hd j hj hjd=>?_,fun i j d hi hj h1 h2=>?_,fun i d hi hd'=>?_,fun i j b hi hj hne h1 h2=>(hbox i j b hi hj hne h1 h2).1,
    fun i id bx hi he=>?_,fun i j id bx bx' hi hj h1 h2=>?_,hnb,fun i id bx hi he=>?_,b7s hbk,d3x hbk⟩
  · obtain ⟨d,_,h2,h3,_⟩:=hfact i o ho
    show (ds.getD i y5.u).dst=_
    rw [h2];exact h3
  · obtain ⟨d,_,h2,h3,h4,_⟩:=hfact i o ho
    have hit:(ds.getD i y5.u).it=some it:=hit
    rw [h2] at hit
    exact ⟨(h4 it hit).1,(h4 it hit).2.1⟩
  · obtain ⟨d,_,h2,h3,_,h5⟩:=hfact i o ho
    have hit:(ds.getD i y5.u).it=none:=hit
    rw [h2] at hit
    exact h5 hit
  · obtain ⟨o',ho',h1⟩:=hdst j hj
    have hjd:(ds.getD j y5.u).dst=some d:=hjd
    rw [h1] at hjd
    exact ((hslf i o ho).2.2 j o' d ho' hjd).2 hd
  · obtain ⟨o,ho,h3⟩:=hdst i hi
    obtain ⟨o',ho',h4⟩:=hdst j hj
    have h1:(ds.getD i y5.u).dst=some d:=h1
    have h2:(ds.getD j y5.u).dst=some d:=h2
    rw [h3] at h1;rw [h4] at h2
    exact ((hslf i o ho).2.2 j o' d ho' h2).1.resolve_right (fun h=>h h1)
  · obtain ⟨o,ho,h3⟩:=hdst i hi
    have hd':(ds.getD i y5.u).dst=some d:=hd'
    rw [h3] at hd'
    exact (hslf i o ho).1 d hd'
  · obtain ⟨d,h1,h2⟩:=hget i hi
    have he:(ds.getD i y5.u).eff= .new id bx:=he
    rw [h2] at he
    exact (hnew.2 d (List.mem_of_getElem? h1) id bx he).1
  · rcases Nat.decEq i j with h|h
    · exact absurd ⟨⟨bx',h2⟩,bx,h1⟩ (hbox i j id hi hj h (by rw [show (ds.getD j y5.u).eff=_ from h2];rfl) (.inr (by rw [show (ds.getD i y5.u).eff=_ from h1];rfl))).2
    · exact h
  · obtain ⟨o,ho,_⟩:=hdst i hi
    obtain ⟨d,_,h2,h3,h4,_⟩:=hfact i o ho
    have he:(ds.getD i y5.u).eff= .set id bx:=he
    rw [h2] at he
    unfold y5.eff at he
    cases hit:d.it with
    | none=>rw [hit] at he;cases he
    | some it=>rw [hit] at he;exact (h4 it hit).2.2.2 id bx he
-- axioms of d1l
end Go.Ax
end
section
namespace Go.Ax
open Go.RowKit (Below)
def Wp (c:Ctx) (code:Code) (Q:Exit→St→Prop) (st:St):Prop:=
  ∀E a w,SR c st E a w→code.wp c.P (fun e a w=>∃st E,SR c st E a w∧Q e st) a w
def Nxt (K:St→Prop) (Q:Exit→St→Prop):Exit→St→Prop
  | .normal,st=>K st
  | e,st=>Q e st
variable {c:Ctx} {Q:Exit→St→Prop} {st:St}
theorem Wp.mono {code:Code} {Q':Exit→St→Prop} (h:Wp c code Q st) (hq:∀e st,Q e st→Q' e st):Wp c code Q' st:=
  fun E a w s=>wp_mono (h E a w s) fun _ _ _ ⟨st,E,s,q⟩=>⟨st,E,s,hq _ _ q⟩
theorem d7x (h:Q .normal st):Wp c .skip Q st:=fun E _ _ s=>wp_skip ⟨st,E,s,h⟩
theorem e03 (h:Q .ret st):Wp c .ret Q st:=fun E _ _ s=>wp_ret ⟨st,E,s,h⟩
theorem d7v {id:Nat} (h:Q (.exit id) st):Wp c (.exit id) Q st:=fun E _ _ s=>wp_exit ⟨st,E,s,h⟩
theorem j0 {x y:Code} (h:Wp c x (Nxt (Wp c y Q) Q) st):Wp c (.seq x y) Q st:=by
  intro E a w s
  refine wp_seq (wp_mono (h E a w s) ?_)
  rintro e a w ⟨st,E,s,q⟩
  cases e with
  | normal=>exact q E a w s
  | _=>exact ⟨st,E,s,q⟩
theorem d7u {x:Operand} {t e:Code} {b:Bool} (hx:a1o st.t x= .one (.v (.bool b))) (hc:a0v x=true) (ht:b=true→Wp c t Q st) (he:b=false→Wp c e Q st):Wp c (.cond x t e) Q st:=by
  intro E a w s
  have:=a98 s.slots x hc
  rw [hx] at this
  obtain ⟨_,h,_⟩:=this
  simp only [List.cons.injEq,and_true] at h
  exact wp_cond_split h (fun h=>ht h E a w s) (fun h=>he h E a w s)
def a5s (x:AV) (T E:Prop):Prop:=match x with
  | .one (.v (.bool b))=>(b=true→T)∧(b=false→E)
  | _=>False
theorem d8g {T E:Prop} (h:T):a5s (.one (.v (.bool true))) T E:=⟨fun _=>h,fun e=>(by cases e)⟩
theorem d8f {T E:Prop} (h:E):a5s (.one (.v (.bool false))) T E:=⟨(fun e=>(by cases e)),fun _=>h⟩
theorem d5r {T E:Prop} {b:Bool} (h1:b=true→T) (h2:b=false→E):a5s (.one (.v (.bool b))) T E:=⟨h1,h2⟩
theorem d2a {T E:Prop} {p:Prop} [Decidable p] (h1:p→T) (h2:¬p→E):a5s (.one (.v (.bool (decide p)))) T E:=⟨fun h=>h1 (of_decide_eq_true h),fun h=>h2 (of_decide_eq_false h)⟩
theorem d1y {T E:Prop} {a b:Int} (h1:a=b→T) (h2:¬a=b→E):a5s (.one (.v (.bool (a == b)))) T E:=⟨fun h=>h1 (eq_of_beq h),fun h=>h2 (ne_of_beq_false h)⟩
theorem d1z {T E:Prop} {a b:Int} (h1:¬a=b→T) (h2:a=b→E):a5s (.one (.v (.bool (a != b)))) T E:=⟨fun h=>h1 (by simpa using h),fun h=>h2 (by simpa using h)⟩
theorem d3w {x:Operand} {t e:Code} (hk:a0v x=true) (h:a5s (a1o st.t x) (Wp c t Q st) (Wp c e Q st)):Wp c (.cond x t e) Q st:=by
  unfold a5s at h
  split at h
  · rename_i b hx
    exact d7u hx hk h.1 h.2
  · exact h.elim
theorem c8s {K:St→Prop} (h:K st):Nxt K Q .normal st:=h
theorem d8x {K:St→Prop} (h:Q .ret st):Nxt K Q .ret st:=h
theorem d6d {K:St→Prop} {id:Nat} (h:Q (.exit id) st):Nxt K Q (.exit id) st:=h
theorem c55 {x y:AV} {T E:Prop} (e:Is x y) (h:a5s y T E):a5s x T E:=by
  have e:x=y:=e
  rw [e];exact h
def Blk (id:Nat) (Q:Exit→St→Prop):Exit→St→Prop
  | .exit id',st=>if id'=id then Q .normal st else Q (.exit id') st
  | e,st=>Q e st
theorem c7z {id:Nat} (h:Q .normal st):Blk id Q .normal st:=h
theorem d74 {id:Nat} (h:Q .ret st):Blk id Q .ret st:=h
theorem e06 {id:Nat} (h:Q .normal st):Blk id Q (.exit id) st:=by simp only [Blk,if_true];exact h
theorem e07 {id id':Nat} (hn:Nat.beq id' id=false) (h:Q (.exit id') st):Blk id Q (.exit id') st:=by
  simp only [Blk];rw [if_neg (fun e=>by rw [e,Nat.beq_refl] at hn;cases hn)];exact h
theorem i6 {id:Nat} {x:Code} (h:Wp c x (Blk id Q) st):Wp c (.block id x) Q st:=by
  intro E a w s
  refine wp_block (wp_mono (h E a w s) ?_)
  rintro e a w ⟨st,E,s,q⟩
  cases e with
  | exit id' =>
    simp only [Blk] at q
    simp only [Exit.inBlock]
    by_cases e:id'=id
    · simp only [e,if_true] at q ⊢;exact ⟨st,E,s,q⟩
    · simp only [e,if_false] at q ⊢;exact ⟨st,E,s,q⟩
  | _=>exact ⟨st,E,s,q⟩
theorem c1n {id:Nat} {ops:Array Oper} (hc:a0d c) (hm:c.P.follows .mixedOrders=true) (hnb:c.nb0≤st.nb) (hd:b6m c.N ops=true)
    (h:t8 c.P c.G c.ns ops (fun _ _ _ _=>False) (n9 c.tt c.ns ops ops.toList st [] []) fun st' sh=>b00 ops st.nb sh=true∧Q .normal st'):Wp c (.region id ops true) Q st:=by
  intro E a w s
  obtain ⟨_,pre,post,ds,hpp,h1,h2'⟩:=a0j hc.tt _ _ _ _ h
  obtain ⟨h2,h3⟩:(b00 ops st.nb ([]++ds.map y5.sh)=true)∧Q .normal (ds.foldl St.after st)∧post= []:=by
    rcases h2' with ⟨h4,h5⟩|⟨_,_,_,_,h4⟩
    · exact ⟨h5.1,h5.2,h4⟩
    · exact h4.elim
  obtain ⟨h3,rfl⟩:=h3
  rw [List.append_nil] at hpp
  subst hpp
  simp only [List.nil_append] at h2
  have hlen:ds.length=ops.size:=by rw [b7a ds _ _ h1];simp
  have ok:=d1l hnb h1 hd h2
  have hn:=a9c ds _ _ h1
  refine b3e hc hm s ok (nb':=(ds.foldl St.after st).nb) (fun i id bx hi he=>?_) hn.1 (fun E a w s'=>⟨_,E,?_,h3⟩)
  · have hi':i < ds.length:=by omega
    have he:(ds.getD i y5.u).eff= .new id bx:=he
    simp only [List.getD_eq_getElem?_getD,List.getElem?_eq_getElem hi',Option.getD_some] at he
    exact (hn.2 _ (List.getElem_mem hi') id bx he).2
  · have e1:=funext fun n=>b0y (st:=st) (ds:=ds) ds.length (Nat.le_refl _) n
    have e2:=funext fun n=>b0x (st:=st) (ds:=ds) ds.length (Nat.le_refl _) n
    rw [List.take_length,hlen] at e1 e2
    unfold SR at s' ⊢
    rw [e1,e2]
    exact s'
def c2g (N:Nat) (ops:Array Oper):Bool:=ops.toList.all fun o=>(match o.dst with|some d=>decide (d < N)|none=>true) && o.op.operands.toList.all a0v &&
  (match o.guard with|some (j,_)=>(match (ops[j]?).bind (·.dst) with|some d=>decide (d < N)|none=>true)|none=>true)
theorem d63 (hc:a0d c) {ops:Array Oper} {Q':Exit→Act→World→Prop}:∀(ds:List y5) (rest:List Oper) (k:Nat) (st:St),(∀j,j < rest.length→rest[j]?=ops[k+j]?)→∀m,c.nb0≤st.nb→b81 c.P c.G c.ns ops rest st ds→
    (∀o∈rest,(∀d,o.dst=some d→d < c.N)∧(∀x∈o.op.operands,a0v x=true)∧∀j want d,o.guard=some (j,want)→(ops[j]?).bind (·.dst)=some d→d < c.N)→
    (∀E a w,SR c (ds.foldl St.after st) E a w→wpOps c.P ops Q' (List.range' (k+rest.length) m) a w)→∀E a w,SR c st E a w→wpOps c.P ops Q' (List.range' k (rest.length+m)) a w
  | [],[],k,st,_,m,_,_,_,hQ,E,a,w,s=>by simpa using hQ E a w s
  | _ :: _,[],_,_,_,_,_,h,_,_,_,_,_,_=>by cases h
  | [],_ :: _,_,_,_,_,_,h,_,_,_,_,_,_=>by obtain ⟨_,_,h,_⟩:=h;cases h
  | d :: ds, o :: rest, k, st, hr, m, hnb, h, hok, hQ, E, a, w, s => by
    obtain ⟨_,_,h1,h2,h3,h4,h5⟩:=h
    cases h1
    have ho:ops[k]?=some o:=by have:=hr 0 (by simp);simpa using this.symm
    rw [List.length_cons,show rest.length+1+m=(rest.length+m)+1 by omega,List.range'_succ,wpOps_cons]
    obtain ⟨g1,g2,g3⟩:=hok o (by simp)
    have hwant:∀r,a1k ops o st.t r→Region.wanted o (yielded ops a.tmps)=r:=fun r hr=>
      a87 (E:=E) (w:=w) s.size hr fun j want d' hg hd=>⟨g3 j want d' hg hd,s.slots d'⟩
    have hnb':st.nb≤(st.after d).nb:=(a9c [d] [o] st ⟨d,[],rfl,h2,h3,h4,rfl⟩).1
    have next:∀E a w,SR c (st.after d) E a w→wpOps c.P ops Q' (List.range' (k+1) (rest.length+m)) a w:=fun E a w s'=>
      d63 hc ds rest (k+1) (st.after d) (fun j hj=>by have:=hr (j+1) (by simp;omega);rw [show k+1+j=k+(j+1) by omega];simpa using this) m (Nat.le_trans hnb hnb') h5 (fun o' ho'=>hok o' (by simp [ho'])) (fun E a w s=>by have:=hQ E a w s;rwa [List.length_cons,show k+(rest.length+1)=k+1+rest.length by omega] at this) E a w s'
    unfold wpOp
    rw [ho]
    dsimp only
    cases hit:d.it with
    | none =>
      rw [hwant false (h4 hit)]
      simp only [Bool.false_eq_true,if_false]
      refine next E _ w ?_
      have e:st.after d=st.put o.dst (.tup []):=by unfold St.after;rw [hit,h2]
      rw [e]
      unfold SR
      refine a89.sr (c:=c) (it:=⟨.tup [],.none,[]⟩) (dst:=o.dst) (v:=undef) s (E':=E) (w':=w) ⟨rfl,Below.refl _ _⟩ ⟨[],rfl,rfl⟩ g1 (fun _ _ h=>(by cases h)) (fun n=>?_) (fun b=>⟨(fun _ h=>by rcases h with h|h <;> cases h),fun _=>by rw [(St.put_h _ _ _).1]⟩)
        (fun b hb=>⟨by rwa [(St.put_h _ _ _).2] at hb,fun _ h=>(by cases h)⟩) (fun _ _ h=>(by cases h))
      have:=St.after_t st d n
      rw [e,h2] at this
      rw [this]
      refine ⟨fun h=>by simp [h,y5.val,hit],fun h=>by simp [h]⟩
    | some it =>
      obtain ⟨f1,f2,f3,f4⟩:=h3 it hit
      rw [hwant true f1]
      simp only [if_true]
      refine .inl (f2 E w a _ Q' s.env (hc.g w s.below) (fun x hx=>a98 s.slots x (g2 x hx)) (fun b _ bx hbx=>s.boxes b bx hbx) (fun id bx he=>s.free id (by rw [f3 id bx he];exact Nat.le_refl _)) fun v E' w' hv hE=>?_)
      refine next E' _ w' ?_
      have e:st.after d=st.step o.dst it:=by unfold St.after;rw [hit,h2]
      have hh:=St.after_h st d
      have ht:=St.after_t st d
      have hv':d.val=it.val:=by simp [y5.val,hit]
      have he':d.eff=it.eff:=by simp [y5.eff,hit]
      unfold SR
      refine a89.sr (c:=c) (it:=it) (dst:=o.dst) (v:=v) s hE hv g1 f4 (fun n=>?_) (fun b=>?_) (fun b hb=>?_) (fun id bx h=>by rw [f3 id bx h];exact hnb)
      · rw [ht n,h2,hv']
        exact ⟨fun h=>by simp [h],fun h=>by simp [h]⟩
      · rw [hh b,he']
        refine ⟨fun bx h=>?_,fun h=>?_⟩
        · rcases h with h|h <;> simp [h]
        · cases hx:it.eff with
          | none=>rfl
          | new id bx=>rw [hx] at h;simp [Eff.id?] at h;simp [h]
          | set id bx=>rw [hx] at h;simp [Eff.id?] at h;simp [h]
      · refine ⟨?_,fun bx h=>?_⟩
        · exact Nat.le_trans hnb' hb
        · have h6:=(a9c [d] [o] st ⟨d,[],rfl,h2,h3,h4,rfl⟩).2 d (by simp) b bx (by rw [he'];exact h)
          simp only [List.foldl_cons,List.foldl_nil] at h6
          have:(st.after d).nb≤b:=hb
          omega
def a22 (c:Ctx) (ops:Array Oper) (K:St→Prop) (o:Oper) (rest:List Oper) (st:St) (_:List Sh):Prop:=
  ∀k,c.nb0≤st.nb→ops[k]?=some o→(∀j,rest[j]?=ops[k+1+j]?)→k+1+rest.length=ops.size→
    (∀o'∈o :: rest,(∀d,o'.dst=some d→d < c.N)∧(∀x∈o'.op.operands,a0v x=true)∧∀j want d,o'.guard=some (j,want)→(ops[j]?).bind (·.dst)=some d→d < c.N)→
    ∀Q':Exit→Act→World→Prop,(∀st' E a w,K st'→SR c st' E a w→Q' .normal a w)→
    ∀E a w,SR c st E a w→Region.wanted o (yielded ops a.tmps)=true→wpOps c.P ops Q' (List.range' k (rest.length+1)) a w
theorem c0b (hc:a0d c) {ops:Array Oper} {K:St→Prop} {rest:List Oper} {k:Nat} {st:St} {sh:List Sh} (h:c2u c.P c.G c.ns ops (a22 c ops K) rest st sh fun st' _=>K st') (hr:∀j,rest[j]?=ops[k+j]?) (hk:k+rest.length=ops.size) (hnb:c.nb0≤st.nb)
    (hok:∀o∈rest,(∀d,o.dst=some d→d < c.N)∧(∀x∈o.op.operands,a0v x=true)∧∀j want d,o.guard=some (j,want)→(ops[j]?).bind (·.dst)=some d→d < c.N)
    (Q':Exit→Act→World→Prop) (hQ:∀st' E a w,K st'→SR c st' E a w→Q' .normal a w) (E:u6) (a:Act) (w:World) (s:SR c st E a w):wpOps c.P ops Q' (List.range' k rest.length) a w:=by
  obtain ⟨pre,post,ds,rfl,h1,h2⟩:=h
  rw [List.length_append]
  refine d63 hc ds pre k st (fun j hj=>by have:=hr j;rwa [List.getElem?_append_left hj] at this) post.length hnb h1 (fun o ho=>hok o (by simp [ho])) (fun E a w s=>?_) E a w s
  rcases h2 with ⟨rfl,h3⟩|⟨o,r,rfl,h3,h4⟩
  · exact hQ _ _ _ _ h3 s
  · have ho:ops[k+pre.length]?=some o:=by have:=hr pre.length;simpa using this.symm
    refine h4 (k+pre.length) (Nat.le_trans hnb (a9c ds _ _ h1).1) ho (fun j=>?_) (by simp at hk;omega) (fun o' ho'=>hok o' (List.mem_append_right _ ho')) Q' hQ E a w s ?_
    · have:=hr (pre.length+1+j)
      rw [List.getElem?_append_right (by omega),show pre.length+1+j - pre.length=j+1 by omega,List.getElem?_cons_succ,show k+(pre.length+1+j)=k+pre.length+1+j by omega] at this
      exact this
    · exact a87 (E:=E) (w:=w) s.size h3 fun j want d' hg hd=>⟨(hok o (by simp)).2.2 j want d' hg hd,s.slots d'⟩
theorem c9d {N:Nat} {ops:Array Oper} (hd:c2g N ops=true):∀o∈ops.toList,(∀d,o.dst=some d→d < N)∧(∀x∈o.op.operands,a0v x=true)∧∀j want d,o.guard=some (j,want)→(ops[j]?).bind (·.dst)=some d→d < N:=by
  intro o ho
  simp only [c2g,List.all_eq_true,Bool.and_eq_true] at hd
  obtain ⟨⟨h1,h2⟩,h3⟩:=hd o ho
  refine ⟨fun d hd=>by simpa [hd] using h1,fun x hx=>h2 x (by simpa using hx),fun j want d hg hd=>?_⟩
  simpa [hg,hd] using h3
theorem b2u {id:Nat} {ops:Array Oper} (hc:a0d c) (hnb:c.nb0≤st.nb) (hd:c2g c.N ops=true)
    (h:t8 c.P c.G c.ns ops (a22 c ops fun st'=>Q .normal st') (n9 c.tt c.ns ops ops.toList st [] []) fun st' _=>Q .normal st'):Wp c (.region id ops false) Q st:=by
  intro E a w s
  have h:=(a0j hc.tt _ _ _ _ h).2
  refine wp_region ?_
  have:=c0b hc (k:=0) h (by simp) (by simp) hnb (c9d hd) (fun e a w=>∃st E,SR c st E a w∧Q e st) (fun st' E a w hq s=>⟨st',E,s,hq⟩) E a w s
  rw [←List.range_eq_range'] at this;simpa using this
def resA (tt:TypeId→Option TyI) (r:ResultVar) (st:St) (K:AV→Prop):Prop:=
  match r with
  | .tmp t=>K (st.t t)
  | .cell p T => match st.t p, tt T with
    | .one (.ptr b sz i off), some ti => match st.h b with
      | some bx => match a7i (bx.g i) off ti.size with
        | some ls => match a66 ti.agg ls with
          | some y=>(i < bx.n∧sz=bx.sz∧0 < ti.size)∧K y
          | none=>False
        | none=>False
      | none=>False
    | _,_=>False
def c84 (tt:TypeId→Option TyI) (st:St):List ResultVar→List AV→(List AV→Prop)→Prop
  | [],acc,K=>K acc
  | r :: rs,acc,K=>resA tt r st fun y=>c84 tt st rs (acc++ [y]) K
def a6c (l:List AV):AV:=match l with
  | [x]=>x
  | l=>.tup l
def Ends (c:Ctx) (fn:Func) (r:AV) (e:Exit) (st:St):Prop:=
  (e= .normal∨e= .ret)∧c84 c.tt st fn.results.toList [] fun l=>Sub (a6c l) r
def b0s (tt:TypeId→Option TyI) (st:St):List ResultVar→List AV→List Prop→Option (List Prop×AV)
  | [],acc,ps=>some (ps,a6c acc)
  | .tmp t :: rs,acc,ps=>b0s tt st rs (acc++ [st.t t]) ps
  | .cell p T :: rs, acc, ps => match st.t p, tt T with
    | .one (.ptr b sz i off), some ti => match st.h b with
      | some bx => match a7i (bx.g i) off ti.size with
        | some ls => match a66 ti.agg ls with
          | some y=>b0s tt st rs (acc++ [y]) ((i < bx.n∧sz=bx.sz∧0 < ti.size) :: ps)
          | none=>none
        | none=>none
      | none=>none
    | _,_=>none
def b6d (out:Option (List Prop×AV)) (r:AV):Prop:=match out with
  | some (ps,x)=>y8 ps∧Sub x r
  | none=>False
theorem d2e {ps:List Prop} {x r:AV} (hp:y8 ps) (h:Sub x r):b6d (some (ps,x)) r:=⟨hp,h⟩
theorem d0b {out out':Option (List Prop×AV)} {r:AV} (e:Is out out') (h:b6d out' r):b6d out r:=by
  have e:out=out':=e
  rw [e];exact h
theorem a97 {tt:TypeId→Option TyI} {r:AV}:∀(rs:List ResultVar) (acc:List AV) (ps:List Prop),b6d (b0s tt st rs acc ps) r→y8 ps∧c84 tt st rs acc fun l=>Sub (a6c l) r
  | [],acc,ps,h=>h
  | .tmp t :: rs,acc,ps,h=>a97 rs _ ps h
  | .cell p T :: rs, acc, ps, h => by
    unfold b0s at h
    split at h
    · rename_i b sz i off ti hp ht
      split at h
      · rename_i bx hb
        split at h
        · rename_i ls hls
          split at h
          · rename_i y hy
            obtain ⟨⟨h1,h2⟩,h3⟩:=a97 rs _ _ h
            refine ⟨h2,?_⟩
            simp only [c84,resA,hp,ht,hb,hls,hy]
            exact ⟨h1,h3⟩
          · exact h.elim
        · exact h.elim
      · exact h.elim
    · exact h.elim
theorem c6c {fn:Func} {rs:Array ResultVar} {r:AV} (hr:fn.results=rs) (h:b6d (b0s c.tt st rs.toList [] []) r):Ends c fn r .normal st:=by subst hr;exact ⟨.inl rfl,(a97 _ _ _ h).2⟩
theorem c6d {fn:Func} {rs:Array ResultVar} {r:AV} (hr:fn.results=rs) (h:b6d (b0s c.tt st rs.toList [] []) r):Ends c fn r .ret st:=by subst hr;exact ⟨.inr rfl,(a97 _ _ _ h).2⟩
def a8b (tmps:Array Value):ResultVar→Sem Value
  | .tmp t=>pure (tmps.getD t undef)
  | .cell p T=>do loadVar T (←asAddr (tmps.getD p undef))
theorem b35 (fn:Func) (tmps:Array Value):results fn tmps=(do
    let vs ←fn.results.mapM (a8b tmps)
    pure (if h:vs.size=1 then vs[0] else .tuple vs)):=by
  unfold results
  refine congrArg (fun g=>Bind.bind (Array.mapM g fn.results) _) ?_
  funext x;cases x <;> rfl
theorem b98 (hc:a0d c) {E:u6} {a:Act} {w:World} (s:SR c st E a w) {r:ResultVar} {K:AV→Prop} (h:resA c.tt r st K) :
    ∃y v,K y∧RV E w y v∧(a8b a.tmps r).run c.P w= .ok v w:=by
  cases r with
  | tmp t=>exact ⟨_,_,h,s.slots t,rfl⟩
  | cell p T =>
    simp only [resA] at h
    split at h
    · rename_i b sz i off ti hp ht
      split at h
      · rename_i bx hb
        split at h
        · rename_i ls hls
          split at h
          · rename_i y hy
            obtain ⟨⟨h1,h2,h3⟩,h4⟩:=h
            have hv:=s.slots p
            rw [hp] at hv
            obtain ⟨_,k,h5,h6⟩:=hv
            simp only [List.cons.injEq,and_true] at h6
            obtain ⟨k',c',Tb,es,g1,g2,g3,g4,g5,g6,g7⟩:=(s.boxes b bx hb).range h1
            rw [h5] at g1;cases g1
            rcases b1w g5 hls with ⟨h11,h12⟩|⟨h11,_⟩
            · subst h2
              obtain ⟨v,h13,h14⟩:=a5c (hc.tt _ _ ht) (a5x g6 off ti.size) (by simp;omega) h11 hy
              refine ⟨y,v,h4,h14,?_⟩
              have:(Instr.loadAt T (.pointer (some ⟨k,i*bx.sz+off,none⟩)))=loadVar T ⟨k,i*bx.sz+off,none⟩:=rfl
              rw [this] at h13
              simp only [a8b,h6,asAddr]
              exact h13
            · omega
          · exact h.elim
        · exact h.elim
      · exact h.elim
    · exact h.elim
theorem b34 (hc:a0d c) {E:u6} {a:Act} {w:World} (s:SR c st E a w):∀(rs:List ResultVar) (acc:List AV) (vacc:List Value) (K:List AV→Prop),c84 c.tt st rs acc K→RVs E w acc vacc→
    ∃l vs,K l∧RVs E w l (vacc++vs)∧(rs.mapM (a8b a.tmps)).run c.P w= .ok vs w
  | [],acc,vacc,K,h,hv=>⟨acc,[],h,by simpa using hv,rfl⟩
  | r :: rs, acc, vacc, K, h, hv => by
    obtain ⟨y,v,h1,h2,h3⟩:=b98 hc s h
    have app:∀(xs:List AV) (us:List Value),RVs E w xs us→RVs E w (xs++ [y]) (us++ [v]):=by
      intro xs
      induction xs with
      | nil=>intro us h;obtain rfl:us= []:=h;exact ⟨v,[],rfl,h2,rfl⟩
      | cons x xs ih=>intro us h;obtain ⟨u,us',rfl,h4,h5⟩:=h;exact ⟨u,us'++ [v],by simp,h4,ih _ h5⟩
    obtain ⟨l,vs,h4,h5,h6⟩:=b34 hc s rs (acc++ [y]) (vacc++ [v]) K h1 (app _ _ hv)
    refine ⟨l,v :: vs,h4,by simpa using h5,?_⟩
    rw [List.mapM_cons]
    simp only [Sem.run_bind,h3,Result.andThen_ok,h6,Sem.run_pure]
theorem b62 (hc:a0d c) {E:u6} {a:Act} {w:World} (s:SR c st E a w):∀(rs:List ResultVar) (acc:List AV) (K:List AV→Prop),c84 c.tt st rs acc K→∀r∈rs,∃v,(a8b a.tmps r).run c.P w= .ok v w
  | [],_,_,_,r,h=>by cases h
  | r' :: rs, acc, K, h, r, hr => by
    obtain ⟨y,v,h1,h2,h3⟩:=b98 hc s h
    rcases List.mem_cons.1 hr with rfl|hr
    · exact ⟨v,h3⟩
    · exact b62 hc s rs _ K h1 r hr
theorem a9u {E:u6} {w:World}:∀{l:List AV} {vs:List Value},RVs E w l vs→l.length=vs.length
  | [],_,h=>by obtain rfl:=h;rfl
  | _ :: _,_,h=>by obtain ⟨_,_,rfl,_,h⟩:=h;simp [a9u h]
theorem b1r {P:Program} {w:World} {f:ResultVar→Sem Value}:∀(l:List ResultVar) (acc:Array Value) {vs:List Value},(l.mapM f).run P w= .ok vs w→
    (∀r∈l,∃v,(f r).run P w= .ok v w)→(l.foldlM (fun (bs:Array Value) (a:ResultVar)=>(do let b ←f a;pure (bs.push b):Sem (Array Value))) acc).run P w= .ok (acc++vs.toArray) w
  | [], acc, vs, h, _ => by
    simp only [List.mapM_nil,Sem.run_pure,Result.ok.injEq,and_true] at h
    subst h;simp
  | r :: l, acc, vs, h, hr => by
    obtain ⟨v,hv⟩:=hr r (by simp)
    rw [List.mapM_cons] at h
    simp only [Sem.run_bind,hv,Result.andThen_ok] at h
    cases hl:(l.mapM f).run P w with
    | halt _ _=>rw [hl] at h;cases h
    | ok us w1 =>
      rw [hl] at h
      simp only [Result.andThen_ok,Sem.run_pure,Result.ok.injEq] at h
      obtain ⟨h1,h2⟩:=h
      subst h2 h1
      have:=b1r l (acc.push v) hl (fun r' h'=>hr r' (by simp [h']))
      simp only [List.foldlM_cons,Sem.run_bind,hv,Result.andThen_ok,Sem.run_pure,this]
      simp
theorem b1q {P:Program} {w:World} {f:ResultVar→Sem Value} {xs:Array ResultVar} {vs:List Value} (h:(xs.toList.mapM f).run P w= .ok vs w) (hr:∀r∈xs.toList,∃v,(f r).run P w= .ok v w) :
    (xs.mapM f).run P w= .ok vs.toArray w:=by
  rw [Array.mapM_eq_foldlM,←Array.foldlM_toList]
  have:=b1r xs.toList #[] h hr
  simpa using this
def a8a:List AV→Nat→AV
  | [],_=>.u
  | x :: _,0=>x
  | _ :: r,n+1=>a8a r n
theorem b8n:∀(l:List AV) (n:Nat),a8a l n=l.getD n .u
  | [],_=>rfl
  | _ :: _,0=>rfl
  | _ :: r,n+1=>by simp only [a8a,b8n r n,List.getD_cons_succ]
theorem c0g {P:Program} {G:World→Prop} {tt:TypeId→Option TyI} (htt:a2e P tt) {f:FuncId} {fn:Func} {code:Code} (hf:P.funcs[f]?=some fn) (hb:fn.body=some code) (hname:(fn.name == "runtime.NumGoroutine")=false)
    (hG:∀w w',Below w.heap.size w w'→G w→G w') {args:List AV} {r:AV} (hcl:clV 0 args∧r.cl 0) (hn:args.length≤fn.ntmps)
    (h:∀w0 E0,a0d ⟨P,tt,G,fn.ntmps,w0,E0,0,fun _=>False,0,[]⟩→Wp ⟨P,tt,G,fn.ntmps,w0,E0,0,fun _=>False,0,[]⟩ code (Ends ⟨P,tt,G,fn.ntmps,w0,E0,0,fun _=>False,0,[]⟩ fn r) ⟨a8a args,a67,0⟩):Pure P G f args r:=by
  refine ⟨⟨fn,hf,hname,by simp [hb]⟩,hcl,fun E w vs hE hok hg _ hvs=>?_⟩
  have hlen:=a9u hvs
  have hctx:a0d ⟨P,tt,G,fn.ntmps,w,E,0,fun _=>False,0,[]⟩:=⟨htt,fun w' hw=>hG w w' hw.plain hg,fun b hb=>hE b hb,Nat.le_refl _,hok.m⟩
  refine calls_of_wp hf hb (wp_mono (h w E hctx E _ w ⟨?_,rfl,fun n=>?_,(fun b bx hb=>(by cases hb)),hok,a4i.refl _,(fun b k _ hbk=>?_),(fun b hb=>absurd hb (Nat.not_lt_zero _)),rfl,fun b hb=>hE b hb⟩) ?_)
  · simp;omega
  · have get:∀(xs:List AV) (us:List Value),RVs E w xs us→∀n,RV E w (xs.getD n .u) ((us++List.replicate (fn.ntmps - us.length) undef).getD n undef):=by
      intro xs us h
      have gen:∀(xs:List AV) (us:List Value) (tl:List Value),RVs E w xs us→∀n,RV E w (xs.getD n .u) ((us++tl).getD n undef):=by
        intro xs
        induction xs with
        | nil=>intro us tl h n;simp only [List.getD_nil];trivial
        | cons x xs ih =>
          intro us tl h n
          obtain ⟨u,us',rfl,h4,h5⟩:=h
          cases n with
          | zero=>exact h4
          | succ n=>exact ih us' tl h5 n
      exact gen xs us _ h
    have:=get args vs hvs n
    have e:(vs.toArray++Array.replicate (fn.ntmps - vs.toArray.size) undef).getD n undef=(vs++List.replicate (fn.ntmps - vs.length) undef).getD n undef:=by
      rw [Array.getD_eq_getD_getElem?,List.getD_eq_getElem?_getD,←Array.getElem?_toList]
      simp
    show RV E w (a8a args n) _
    rw [b8n,e];exact this
  · have hbk:E.ρ b=some k:=hbk
    rw [hE b (Nat.zero_le _)] at hbk;cases hbk
  · rintro e a w' ⟨st,E',s,he,hr⟩
    obtain ⟨l,vs',h1,h2,h3⟩:=b34 hctx s fn.results.toList [] [] _ hr rfl
    have hres:∃v,(results fn a.tmps).run P w'= .ok v w'∧RV E' w' (a6c l) v:=by
      have hm:(results fn a.tmps).run P w'= .ok (if h:vs'.toArray.size=1 then vs'.toArray[0] else .tuple vs'.toArray) w':=by
        rw [b35]
        have:(fn.results.mapM (a8b a.tmps)).run P w'= .ok vs'.toArray w':=b1q h3 (b62 hctx s _ _ _ hr)
        simp only [Sem.run_bind,this,Result.andThen_ok,Sem.run_pure]
      refine ⟨_,hm,?_⟩
      simp only [List.nil_append] at h2
      match l,vs',h2 with
      | [],vs',h2=>obtain rfl:vs'= []:=h2;exact ⟨[],rfl,rfl⟩
      | [x],vs',h2=>obtain ⟨v,_,rfl,h4,h5⟩:=h2;obtain rfl:=h5;exact h4
      | x :: y :: l, vs', h2 =>
        have:=a9u h2
        simp at this
        have hne:¬vs'.toArray.size=1:=by simp;omega
        rw [dif_neg hne]
        exact ⟨vs',rfl,h2⟩
    obtain ⟨v,h4,h5⟩:=hres
    have hinto:a1h 0 E' E w':=⟨fun _ _ h=>absurd h (by omega),fun k hk=>⟨hk.1,by have:=s.m;simp only at this;rw [←this];exact hk.2.1,fun b=>by rw [hE b (Nat.zero_le _)];simp⟩⟩
    rcases he with rfl|rfl
    · exact ⟨s.defers,v,h4,v,rfl,hinto.rv hcl.2 (h1 _ _ _ h5),s.below.plain⟩
    · exact ⟨s.defers,v,h4,v,rfl,hinto.rv hcl.2 (h1 _ _ _ h5),s.below.plain⟩
theorem d0h {E:u6} {w:World} {n:Nat} {xs:List AV} {us:List Value} (h:RVs E w xs us) (m:Nat):RV E w (a8a xs m) ((us.toArray++Array.replicate (n - us.toArray.size) undef).getD m undef):=by
  have gen:∀(xs:List AV) (us:List Value) (tl:List Value),RVs E w xs us→∀n,RV E w (xs.getD n .u) ((us++tl).getD n undef):=by
    intro xs
    induction xs with
    | nil=>intro us tl h n;simp only [List.getD_nil];trivial
    | cons x xs ih =>
      intro us tl h n
      obtain ⟨u,us',rfl,h4,h5⟩:=h
      cases n with
      | zero=>exact h4
      | succ n=>exact ih us' tl h5 n
  have e:(us.toArray++Array.replicate (n - us.toArray.size) undef).getD m undef=(us++List.replicate (n - us.length) undef).getD m undef:=by
    rw [Array.getD_eq_getD_getElem?,List.getD_eq_getElem?_getD,←Array.getElem?_toList]
    simp
  rw [b8n,e];exact gen xs us _ h m
theorem c85 {P:Program} {fn:Func} {E:u6} {w:World} {tmps:Array Value} {l:List AV} {vs:List Value} (hl:RVs E w l vs) (h1:(fn.results.toList.mapM (a8b tmps)).run P w= .ok vs w) (h2:∀r∈fn.results.toList,∃v,(a8b tmps r).run P w= .ok v w) :
    ∃v,(results fn tmps).run P w= .ok v w∧RV E w (a6c l) v:=by
  have hm:(results fn tmps).run P w= .ok (if h:vs.toArray.size=1 then vs.toArray[0] else .tuple vs.toArray) w:=by
    rw [b35]
    have:(fn.results.mapM (a8b tmps)).run P w= .ok vs.toArray w:=b1q h1 h2
    simp only [Sem.run_bind,this,Result.andThen_ok,Sem.run_pure]
  refine ⟨_,hm,?_⟩
  match l,vs,hl with
  | [],vs,h2=>obtain rfl:vs= []:=h2;exact ⟨[],rfl,rfl⟩
  | [x],vs,h2=>obtain ⟨v,_,rfl,h4,h5⟩:=h2;obtain rfl:=h5;exact h4
  | x :: y :: l, vs, h2 =>
    have:=a9u h2
    simp at this
    have hne:¬vs.toArray.size=1:=by simp;omega
    rw [dif_neg hne]
    exact ⟨vs,rfl,h2⟩
def EndsF (t sz m n cc:Nat) (g:Nat→List i7) (e:Exit) (st:St):Prop:=
  (e= .normal∨e= .ret)∧∃b g',st.t t= .one (.own b sz 0 n cc)∧st.h b=some ⟨sz,m,g',false⟩∧∀i,i < m→g' i=g i
theorem b7x {P:Program} {G:World→Prop} {tt:TypeId→Option TyI} (htt:a2e P tt) {f:FuncId} {fn:Func} {code:Code} (hf:P.funcs[f]?=some fn) (hb:fn.body=some code) (hname:(fn.name == "runtime.NumGoroutine")=false)
    (hG:∀w w',Below w.heap.size w w'→G w→G w') {args:List AV} (hcl:clV 0 args) (hn:args.length≤fn.ntmps) {sz m n cc t:Nat} {g:Nat→List i7} (hg:∀i,i < m→clL 0 (g i)) (hres:fn.results=#[.tmp t])
    (h:∀w0 E0,a0d ⟨P,tt,G,fn.ntmps,w0,E0,0,fun _=>False,0,[]⟩→Wp ⟨P,tt,G,fn.ntmps,w0,E0,0,fun _=>False,0,[]⟩ code (EndsF t sz m n cc g) ⟨a8a args,a67,0⟩):b6e P G f args sz m n cc g:=by
  refine ⟨⟨fn,hf,hname,by simp [hb]⟩,hcl,hg,fun E w vs hE hok hgw hvs=>?_⟩
  have hlen:=a9u hvs
  have hctx:a0d ⟨P,tt,G,fn.ntmps,w,E,0,fun _=>False,0,[]⟩:=⟨htt,fun w' hw=>hG w w' hw.plain hgw,fun b _=>hE b,Nat.le_refl _,hok.m⟩
  refine calls_of_wp hf hb (wp_mono (h w E hctx E _ w ⟨?_,rfl,fun n=>d0h hvs n,(fun b bx hb=>(by cases hb)),hok,a4i.refl _,(fun b k _ hbk=>?_),(fun b hb=>absurd hb (Nat.not_lt_zero _)),rfl,fun b _=>hE b⟩) ?_)
  · simp;omega
  · have hbk:E.ρ b=some k:=hbk
    rw [hE b] at hbk;cases hbk
  · rintro e a w' ⟨st,E',s,he,b,g',h1,h2,h3⟩
    have hv:=s.slots t
    rw [h1] at hv
    obtain ⟨_,k,h4,h5⟩:=hv
    simp only [List.cons.injEq,and_true,Nat.zero_mul] at h5
    have hrun:(results fn a.tmps).run P w'= .ok (.slice (some ⟨k,0,none⟩) n cc) w':=by
      rw [b35,hres]
      simp [a8b,h5]
    have hk:w.heap.size≤k:=by
      rcases s.own b k (Nat.zero_le _) h4 with h|h
      · exact h
      · exact h.1.elim
    have hkk:=s.env.r _ _ h4
    have hm:=s.m
    have hbox:a6f (E.add 0 k) w' 0 ⟨sz,m,g,false⟩:=by
      have hb1:a6f E' w' b ⟨sz,m,g,false⟩:=by
        rcases s.boxes b _ h2 with ⟨q,_⟩|⟨k',c,T,q1,q2,q3,q4⟩
        · cases q
        exact .inr ⟨k',c,T,q1,q2,q3,fun i hi=>by have q:=q4 i hi;dsimp only at q ⊢;rw [h3 i hi] at q;exact q⟩
      refine hb1.into (b':=0) ⟨fun _ _ h=>absurd h (Nat.not_lt_zero _),fun j hj=>?_⟩ hg (fun k' hk'=>by rw [h4] at hk';cases hk';simp [u6.add])
      refine ⟨hj.1,fun hM=>hj.2.1 (by rw [hm];exact hM),fun x hx=>?_⟩
      simp only [u6.add] at hx
      split at hx
      · cases hx;exact hj.2.2 b h4
      · rw [hE x] at hx;cases hx
    rcases he with rfl|rfl
    · exact ⟨s.defers,_,hrun,k,rfl,hk,hkk,s.below.plain,hbox⟩
    · exact ⟨s.defers,_,hrun,k,rfl,hk,hkk,s.below.plain,hbox⟩
def EndsW (c:Ctx) (fn:Func) (r:AV) (bx:Box) (e:Exit) (st:St):Prop:=
  (e= .normal∨e= .ret)∧(c84 c.tt st fn.results.toList [] fun l=>Sub (a6c l) r)∧∃g',st.h 0=some ⟨bx.sz,bx.n,g',false⟩∧∀i,i < bx.n→g' i=bx.g i
theorem b1y {P:Program} {G:World→Prop} {tt:TypeId→Option TyI} (htt:a2e P tt) {f:FuncId} {fn:Func} {code:Code} (hf:P.funcs[f]?=some fn) (hb:fn.body=some code) (hname:(fn.name == "runtime.NumGoroutine")=false)
    (hG:∀w,G w) {args:List AV} (hone:∀x∈args,∃l:i7,x= .one l∧((∃sz i n c,l= .own 0 sz i n c)∨l.clB=true)) (hn:args.length≤fn.ntmps) {bx bx':Box} {r:AV} (hcl:r.cl 0) (hg:(∀i,i < bx.n→clL 0 (bx.g i))∧∀i,i < bx'.n→clL 0 (bx'.g i))
    (h:∀w0 E0 W,a0d ⟨P,tt,G,fn.ntmps,w0,E0,1,W,0,[]⟩→Wp ⟨P,tt,G,fn.ntmps,w0,E0,1,W,0,[]⟩ code (EndsW ⟨P,tt,G,fn.ntmps,w0,E0,1,W,0,[]⟩ fn r bx') ⟨a8a args,fun b=>match b with|0=>some bx|_+1=>none,1⟩) (hro:bx.ro=false:=by rfl):b0v P G f bx args r bx':=by
  refine ⟨hro,⟨fn,hf,hname,by simp [hb]⟩,hone,hcl,hg,fun E w vs k hE h0 hok hM hgw hbx hvs=>?_⟩
  have hlen:=a9u hvs
  have hctx:a0d ⟨P,tt,G,fn.ntmps,w,E,1,fun j=>j=k,0,[]⟩:=⟨htt,fun w' _=>hG w',fun b hb=>hE b (by have:1≤b:=hb;omega),Nat.zero_le _,hok.m⟩
  refine calls_of_wp hf hb (wp_mono (h w E _ hctx E _ w ⟨?_,rfl,fun n=>d0h hvs n,(fun b bx1 hb=>?_),hok,a4i.refl _,(fun b k' _ hbk=>?_),(fun b hb=>rfl),rfl,fun b hb=>hE b (by have:1≤b:=hb;omega)⟩) ?_)
  · simp;omega
  · match b,hb with
    | 0,hb=>cases hb;exact hbx
  · have hbk:E.ρ b=some k':=hbk
    by_cases e:b=0
    · subst e;rw [h0] at hbk;cases hbk;exact .inr ⟨rfl,hM⟩
    · rw [hE b e] at hbk;cases hbk
  · rintro e a w' ⟨st,E',s,he,hr,g',h2,h3⟩
    obtain ⟨l,vs',h4,h5,h6⟩:=b34 hctx s fn.results.toList [] [] _ hr rfl
    obtain ⟨v,h7,h8⟩:=c85 (by simpa using h5) h6 (b62 hctx s _ _ _ hr)
    have hlow:E'.ρ 0=some k:=by rw [s.low 0 (by exact Nat.zero_lt_one)];exact h0
    have hm:E'.M=E.M:=s.m
    have hinto:a1h 0 E' E w':=⟨fun _ _ h=>absurd h (Nat.not_lt_zero _),fun j hj=>⟨hj.1,fun h=>hj.2.1 (by rw [hm];exact h),fun x hx=>by
      by_cases e:x=0
      · subst e;rw [h0] at hx;cases hx;exact hj.2.2 0 hlow
      · rw [hE x e] at hx;cases hx⟩⟩
    have hwr:b0w k w w':=⟨s.below.os,s.below.tape,s.below.output,s.below.size,fun j hj hk=>s.below.block j hj hk⟩
    have hbox:a6f E w' 0 bx':=by
      have hb1:a6f E' w' 0 bx':=by
        rcases s.boxes 0 _ h2 with ⟨q,_⟩|⟨k',c,T,q1,q2,q3,q4⟩
        · cases q
        exact .inr ⟨k',c,T,q1,q2,q3,fun i hi=>by have q:=q4 i hi;dsimp only at q ⊢;rw [h3 i hi] at q;exact q⟩
      exact hb1.into (b':=0) hinto hg.2 (fun k' hk'=>by rw [hlow] at hk';cases hk';exact h0)
    rcases he with rfl|rfl
    · exact ⟨s.defers,v,h7,v,rfl,hinto.rv hcl (h4 _ _ _ h8),hwr,hbox⟩
    · exact ⟨s.defers,v,h7,v,rfl,hinto.rv hcl (h4 _ _ _ h8),hwr,hbox⟩
def b2v (bxs:List Box) (b:Nat):Option Box:=bxs[b]?
-- axioms of b1y
-- axioms of b7x
-- axioms of c0g
end Go.Ax
end
section
namespace Go.Ax
open Go.RowKit (Below)
def a71 (b:Nat) (k:IntKind) (n:Nat) (f:Nat→Int):i7→i7
  | .own b' sz i m c=>if b'=b then (if sz=1∧i+m≤n∧m≤c then .ints k ((List.range m).map fun j=>f (i+j)) else .u) else .own b' sz i m c
  | .gr b' sz m c=>if b'=b then (if sz=1∧m≤n∧m≤c then .ints k ((List.range m).map fun j=>f j) else .u) else .gr b' sz m c
  | .ptr b' sz i o=>if b'=b then .u else .ptr b' sz i o
  | .fn _ _ _=>.u
  | l=>l
mutual
def b4c (b:Nat) (k:IntKind) (n:Nat) (f:Nat→Int):AV→AV
  | .one l=>.one (a71 b k n f l)
  | .agg ls=>.agg (ls.map (a71 b k n f))
  | .tup xs=>.tup (d7i b k n f xs)
  | .u=>.u
def d7i (b:Nat) (k:IntKind) (n:Nat) (f:Nat→Int):List AV→List AV
  | []=> []
  | x :: xs=>b4c b k n f x :: d7i b k n f xs
end
def u6.drop (E:u6) (b:Nat):u6:={ E with ρ:=fun x=>if x=b then none else E.ρ x }
section
variable {E:u6} {w:World} {b n:Nat} {k:IntKind} {f:Nat→Int}
theorem a6h {j:Nat} (h:E.ok w j):(E.drop b).ok w j:=
  ⟨h.1,h.2.1,fun x=>by by_cases e:x=b <;> simp [u6.drop,e,h.2.2]⟩
theorem b2x:a1h 0 E.shut (E.drop b).shut w:=⟨fun _ _ h=>absurd h (Nat.not_lt_zero _),fun _ h=>a1z.2 (a6h (a1z.1 h))⟩
theorem d1j (hb:∀kb,E.ρ b=some kb→(E.drop b).ok w kb∧w.rangeAt kb 0 ((List.range n).map fun i=>Value.int k (f i))) {l:i7} {cs:List Value} (h:l.R E w cs):(a71 b k n f l).R (E.drop b) w cs:=by
  have hint:∀{z cs},a6g E w z cs→a6g (E.drop b) w z cs:=fun hx=>by
    rcases hx with hx|⟨ds,b,o,c,rfl,h1,h4⟩
    · exact .inl hx
    · exact .inr ⟨ds,b,o,c,rfl,a6h h1,h4⟩
  have hints:∀{k l x},a6t E w k l x→a6t (E.drop b) w k l x:=fun hx=>by
    rcases hx with hx|⟨b,o,c,rfl,h1,h4⟩
    · exact .inl hx
    · exact .inr ⟨b,o,c,rfl,a6h h1,h4⟩
  cases l with
  | v x=>exact h
  | u=>exact h
  | ptr b' sz i o =>
    obtain ⟨j,h1,rfl⟩:=h
    simp only [a71]
    split
    · exact ⟨_,rfl,rfl⟩
    · rename_i e;exact ⟨j,by simp [u6.drop,e,h1],rfl⟩
  | own b' sz i m c =>
    obtain ⟨j,h1,rfl⟩:=h
    simp only [a71]
    split
    · rename_i e;subst e
      obtain ⟨hok,hg⟩:=hb j h1
      split
      · rename_i h2
        obtain ⟨rfl,h3,h4⟩:=h2
        refine ⟨_,rfl,.inr ⟨j,i*1,c,by simp,hok,by simpa using h4,?_⟩⟩
        rw [List.map_map]
        intro d v hv
        have hd:d < m:=by have:=(List.getElem?_eq_some_iff.1 hv).1;simpa using this
        have:((List.range n).map fun i=>Value.int k (f i))[i+d]?=some v:=by
          rw [←hv]
          have h5:i+d < n:=by omega
          simp [hd,h5]
        have:=hg _ _ this
        rw [Nat.mul_one]
        rwa [Nat.zero_add] at this
      · exact ⟨_,rfl,rfl⟩
    · rename_i e;exact ⟨j,by simp [u6.drop,e,h1],rfl⟩
  | gr b' sz m c =>
    simp only [a71]
    split
    · rename_i e;subst e
      split
      · rename_i h2
        obtain ⟨rfl,h3,h4⟩:=h2
        rcases h with ⟨rfl,rfl,rfl⟩|⟨j,h1,rfl⟩
        · exact ⟨_,rfl,.inl ⟨rfl,rfl⟩⟩
        · obtain ⟨hok,hg⟩:=hb j h1
          refine ⟨_,rfl,.inr ⟨j,0,c,by simp,hok,by simpa using h4,?_⟩⟩
          rw [List.map_map]
          intro d v hv
          have hd:d < m:=by have:=(List.getElem?_eq_some_iff.1 hv).1;simpa using this
          have:((List.range n).map fun i=>Value.int k (f i))[d]?=some v:=by
            rw [←hv]
            have h5:d < n:=by omega
            simp [hd,h5]
          exact hg _ _ this
      · rcases h with ⟨rfl,rfl,rfl⟩|⟨j,h1,rfl⟩<;> exact ⟨_,rfl,rfl⟩
    · rename_i e
      rcases h with h|⟨j,h1,rfl⟩
      · exact .inl h
      · exact .inr ⟨j,by simp [u6.drop,e,h1],rfl⟩
  | pp x=>obtain ⟨b',o,es,a,c,d,e⟩:=h;exact ⟨b',o,es,a,a6h c,a1h.shutl b2x d,e⟩
  | int z=>exact hint (z:=z) h
  | frac q=>obtain ⟨xs,ys,a,c,d⟩:=h;exact ⟨xs,ys,a,hint c,hint d⟩
  | rint z=>obtain ⟨ds,x,a,c,d⟩:=h;exact ⟨ds,x,a,hints c,d⟩
  | ints k l=>obtain ⟨x,a,c⟩:=h;exact ⟨x,a,hints c⟩
  | nn k l=>obtain ⟨x,a,b',o,c,h1,h2,h3⟩:=h;exact ⟨x,a,b',o,c,h1,a6h h2,h3⟩
  | row sz m g =>
    rcases h with h|⟨b',o,c,a,hb',hn,hg'⟩
    · exact .inl h
    · refine .inr ⟨b',o,c,a,a6h hb',hn,fun i hi=>?_⟩
      obtain ⟨es,h0,h1,h2⟩:=hg' i hi
      exact ⟨es,h0,a1h.shutl b2x h1,h2⟩
  | fn f a c=>obtain ⟨xs,ys,rfl,_⟩:=h;exact ⟨_,rfl,rfl⟩
theorem c0n (l:i7):(a71 b k n f l).size=l.size:=by
  cases l <;> simp only [a71] <;> (repeat' split) <;> rfl
theorem c0o (hb:∀kb,E.ρ b=some kb→(E.drop b).ok w kb∧w.rangeAt kb 0 ((List.range n).map fun i=>Value.int k (f i))):∀{ls:List i7} {cs:List Value},j7 E w ls cs→j7 (E.drop b) w (ls.map (a71 b k n f)) cs
  | [],_,h=>h
  | _ :: _,_,h=>by obtain ⟨xs,ys,a,c,d⟩:=h;exact ⟨xs,ys,a,d1j hb c,c0o hb d⟩
theorem c0e:∀(ls:List i7),s8 (ls.map (a71 b k n f))=s8 ls
  | []=>rfl
  | l :: ls=>by simp [s8,c0n,c0e ls]
mutual
theorem d7h (hb:∀kb,E.ρ b=some kb→(E.drop b).ok w kb∧w.rangeAt kb 0 ((List.range n).map fun i=>Value.int k (f i))):∀{x:AV} {v:Value},RV E w x v→RV (E.drop b) w (b4c b k n f x) v
  | .one _,_,h=>⟨by rw [c0n];exact h.1,d1j hb h.2⟩
  | .agg _,_,h=>by obtain ⟨cs,a,c⟩:=h;exact ⟨cs,a,c0o hb c⟩
  | .tup _,_,h=>by obtain ⟨vs,a,c⟩:=h;exact ⟨vs,a,d1k hb c⟩
  | .u,_,_=>trivial
theorem d1k (hb:∀kb,E.ρ b=some kb→(E.drop b).ok w kb∧w.rangeAt kb 0 ((List.range n).map fun i=>Value.int k (f i))):∀{xs:List AV} {vs:List Value},RVs E w xs vs→RVs (E.drop b) w (d7i b k n f xs) vs
  | [],_,h=>h
  | _ :: _,_,h=>by obtain ⟨v,r,a,c,d⟩:=h;exact ⟨v,r,a,d7h hb c,d1k hb d⟩
end
end
def a35 (b:Nat) (k:IntKind) (n:Nat) (f:Nat→Int) (bx:Box):Box:={ bx with g:=fun i=>(bx.g i).map (a71 b k n f) }
variable {c:Ctx} {Q:Exit→St→Prop} {st:St}
theorem b82 {code:Code} (hc:a0d c) (b:Nat) (hb0:c.nb0≤b) {bx:Box} (hbx:st.h b=some bx) (hsz:bx.sz=1) (n:Nat) (hn:n≤bx.n) (k:IntKind) (f:Nat→Int) (hg:∀i,i < n→bx.g i= [.v (.int k (f i))])
    (h:Wp c code Q ⟨fun m=>b4c b k n f (st.t m),fun x=>if x=b then none else (st.h x).map (a35 b k n f),st.nb⟩):Wp c code Q st:=by
  intro E a w s
  have hbox:=s.boxes b bx hbx
  have hkey:∀kb,E.ρ b=some kb→(E.drop b).ok w kb∧w.rangeAt kb 0 ((List.range n).map fun i=>Value.int k (f i)):=by
    intro kb h1
    have hown:=s.own b kb (Nat.le_trans hc.ns hb0) h1
    refine ⟨⟨s.env.r _ _ h1,fun hM=>?_,fun x hx=>?_⟩,?_⟩
    · have hM:E.M kb:=hM
      rw [s.m] at hM
      have:=hc.m kb hM
      rcases hown with hown|hown
      · omega
      · exact hown.2 hM
    · by_cases e:x=b
      · simp [u6.drop,e] at hx
      · simp [u6.drop,e] at hx;exact e (s.env.inj _ _ _ hx h1)
    · intro j v hv
      have hj:j < n:=by have:=(List.getElem?_eq_some_iff.1 hv).1;simpa using this
      rcases hbox with ⟨_,h0⟩|⟨kb',cs,T,h1',h2,h3,h4⟩
      · omega
      rw [h1] at h1';cases h1'
      obtain ⟨es,h5,h6,h7⟩:=h4 j (by omega)
      rw [hg j hj] at h6
      obtain ⟨xs,ys,rfl,⟨rfl,_⟩,h9⟩:=h6
      obtain rfl:ys= []:=h9
      have:=h7 0 (.int k (f j)) rfl
      rw [cell_of_row w kb _ cs T (0,0) h2]
      rw [hsz] at this
      simp only [Nat.mul_one,Nat.add_zero] at this
      rw [Nat.zero_add,this,←hv]
      simp [hj]
  refine h (E.drop b) a w ⟨s.size,s.defers,fun m=>d7h hkey (s.slots m),fun x bx' hx=>?_,⟨s.env.m,fun x j hj=>?_,fun x y j hx hy=>?_⟩,s.below,fun x j hx0 hj=>?_,fun x hx=>?_,s.m,fun x hx=>?_⟩
  · have hx:(if x=b then none else (st.h x).map (a35 b k n f))=some bx':=hx
    by_cases e:x=b
    · rw [if_pos e] at hx;cases hx
    · rw [if_neg e] at hx
      simp only [Option.map_eq_some_iff] at hx
      obtain ⟨bx1,hx2,rfl⟩:=hx
      rcases s.boxes x bx1 hx2 with g0|⟨kx,cx,Tx,g1,g2,g3,g4⟩
      · exact .inl g0
      refine .inr ⟨kx,cx,Tx,by simp [u6.drop,e,g1],g2,g3,fun i hi=>?_⟩
      obtain ⟨es,g5,g6,g7⟩:=g4 i hi
      exact ⟨es,by simp only [a35,c0e];exact g5,c0o hkey g6,g7⟩
  · by_cases e:x=b
    · simp [u6.drop,e] at hj
    · simp [u6.drop,e] at hj;exact s.env.r _ _ hj
  · by_cases e:x=b
    · simp [u6.drop,e] at hx
    · by_cases e':y=b
      · simp [u6.drop,e'] at hy
      · simp [u6.drop,e] at hx;simp [u6.drop,e'] at hy;exact s.env.inj _ _ _ hx hy
  · by_cases e:x=b
    · simp [u6.drop,e] at hj
    · simp [u6.drop,e] at hj;exact s.own x j hx0 hj
  · have:x≠b:=by omega
    simp [u6.drop,this,s.low x hx]
  · by_cases e:x=b
    · simp [u6.drop,e]
    · simp [u6.drop,e];exact s.free x hx
theorem b6f {code:Code} (hc:a0d c) (b:Nat) (hb0:c.nb0≤b) {bx:Box} (hbx:st.h b=some bx) (hsz:bx.sz=1) (k:IntKind) (f:Nat→Int) (hg:∀i,i < bx.n→bx.g i= [.v (.int k (f i))])
    (h:Wp c code Q ⟨fun m=>b4c b k bx.n f (st.t m),fun x=>if x=b then none else (st.h x).map (a35 b k bx.n f),st.nb⟩):Wp c code Q st:=b82 hc b hb0 hbx hsz bx.n (Nat.le_refl _) k f hg h
theorem c80 {P:Program} {G:World→Prop} {f:FuncId} {pre post:List AV} {x r:AV} {ι:Type} (y:ι→AV) (hne:Nonempty ι) (hcl:x.cl 0) (hx:∀E w v,RV E w x v→∃i,RV E w (y i) v) (h:∀i,Pure P G f (pre++y i :: post) r):Pure P G f (pre++x :: post) r:=by
  obtain ⟨i0⟩:=hne
  refine ⟨(h i0).callable,⟨?_,(h i0).cl.2⟩,fun E w vs hE hok hg hb hvs=>?_⟩
  · have:=(h i0).cl.1
    have gen:∀(pre:List AV),clV 0 (pre++y i0 :: post)→clV 0 (pre++x :: post):=by
      intro pre
      induction pre with
      | nil=>intro h;exact ⟨hcl,h.2⟩
      | cons p pre ih=>intro h;exact ⟨h.1,ih h.2⟩
    exact gen pre this
  · have gen:∀(pre:List AV) (vs:List Value),RVs E w (pre++x :: post) vs→∃i,RVs E w (pre++y i :: post) vs:=by
      intro pre
      induction pre with
      | nil=>intro vs h;obtain ⟨v,r,rfl,h1,h2⟩:=h;obtain ⟨i,h3⟩:=hx _ _ _ h1;exact ⟨i,v,r,rfl,h3,h2⟩
      | cons p pre ih=>intro vs h;obtain ⟨v,r,rfl,h1,h2⟩:=h;obtain ⟨i,h3⟩:=ih _ h2;exact ⟨i,v,r,rfl,h1,h3⟩
    obtain ⟨i,hi⟩:=gen pre vs hvs
    exact (h i).calls E w vs hE hok hg hb hi
theorem w8 {P:Program} {G:World→Prop} {f:FuncId} {args args':List AV} {r:AV} (h:Pure P G f args r) (hs:a6v args' args) (hcl:clV 0 args'):Pure P G f args' r:=
  ⟨h.callable,⟨hcl,h.cl.2⟩,fun E w vs hE hok hg hb hvs=>h.calls E w vs hE hok hg hb (hs.rvs hvs)⟩
-- axioms of b6f
end Go.Ax
end
section
namespace Go.Ax
open Go.RowKit (Below)
def a6d (n:Nat):List (Nat×AV)→AV
  | []=>.u
  | (k, x) :: r => match Nat.beq n k with
    | true=>x
    | false=>a6d n r
def slots (l:List (Nat×AV)) (n:Nat):AV:=a6d n l
def a5t (n:Nat):List (Nat×Box)→Option Box
  | []=>none
  | (k, x) :: r => match Nat.beq n k with
    | true=>some x
    | false=>a5t n r
def boxes (l:List (Nat×Box)) (n:Nat):Option Box:=a5t n l
def n5 (l:List (Nat×AV)) (h:List (Nat×Box)) (nb:Nat):St:=⟨slots l,boxes h,nb⟩
variable {c:Ctx} {Q:Exit→St→Prop} {st:St}
def u4 (xs ys:List i7):Prop:=(∀E w cs,j7 E w xs cs→j7 E w ys cs)∧s8 ys=s8 xs
theorem u4.refl (xs:List i7):u4 xs xs:=⟨fun _ _ _ h=>h,rfl⟩
theorem u4.of_eq {xs ys:List i7} (h:xs=ys):u4 xs ys:=h ▸ u4.refl xs
structure a1r (nb0:Nat) (st st':St):Prop where
  t:∀m,Sub (st.t m) (st'.t m)∧(st'.t m).cl st'.nb
  h:∀b bx',st'.h b=some bx'→b < st'.nb∧((bx'.ro=true∧bx'.n=0)∨∃bx,st.h b=some bx∧bx.sz=bx'.sz∧bx'.n≤bx.n∧(bx.ro=true→bx'.ro=true∨0 < bx.n)∧∀i,i < bx'.n→u4 (bx.g i) (bx'.g i)∧clL st'.nb (bx'.g i))
  nb:nb0≤st'.nb
def u6.cut (E:u6) (n:Nat):u6:={ E with ρ:=fun x=>if x < n then E.ρ x else none }
theorem d5s (E:u6) (n:Nat) (w:World):a1h n E (E.cut n) w:=⟨fun b k hb h=>by simp [u6.cut,hb,h],fun k hk=>⟨hk.1,hk.2.1,fun b hb=>by
  simp only [u6.cut] at hb
  split at hb
  · exact hk.2.2 b hb
  · cases hb⟩⟩
theorem a1r.sr {st':St} (h:a1r c.nb0 st st') {E:u6} {a:Act} {w:World} (s:SR c st E a w):SR c st' (E.cut st'.nb) a w:=by
  have hi:=d5s E st'.nb w
  have hcut:∀b k,(E.cut st'.nb).ρ b=some k→b < st'.nb∧E.ρ b=some k:=fun b k hb=>by
    simp only [u6.cut] at hb
    split at hb
    · rename_i h1;exact ⟨h1,hb⟩
    · cases hb
  refine ⟨s.size,s.defers,fun m=>hi.rv (h.t m).2 ((h.t m).1 _ _ _ (s.slots m)),fun b bx' hb=>?_,⟨s.env.m,fun x j hj=>s.env.r _ _ (hcut _ _ hj).2,fun x y j hx hy=>s.env.inj _ _ _ (hcut _ _ hx).2 (hcut _ _ hy).2⟩,s.below,fun x j hx0 hj=>s.own x j hx0 (hcut _ _ hj).2,fun x hx=>?_,s.m,fun x hx=>?_⟩
  · obtain ⟨h0,h1⟩:=h.h b bx' hb
    rcases h1 with h1|⟨bx,h1,h2,h3,hro,h4⟩
    · exact .inl h1
    rcases s.boxes b bx h1 with g0|⟨k,cs,T,g1,g2,g3,g4⟩
    · rcases hro g0.1 with h5|h5
      · exact .inl ⟨h5,by have:=g0.2;omega⟩
      · have:=g0.2;omega
    refine .inr ⟨k,cs,T,hi.ρ _ _ h0 g1,g2,by rw [←h2];exact Nat.le_trans (Nat.mul_le_mul_right _ h3) g3,fun i hi'=>?_⟩
    obtain ⟨es,g5,g6,g7⟩:=g4 i (by omega)
    obtain ⟨h5,h6⟩:=h4 i hi'
    exact ⟨es,by rw [←h2,h5.2];exact g5,hi.leaves h6 (h5.1 _ _ _ g6),by rw [←h2];exact g7⟩
  · have:x < st'.nb:=Nat.lt_of_lt_of_le hx h.nb
    simp [u6.cut,this,s.low x hx]
  · have:¬x < st'.nb:=Nat.not_lt.2 hx
    simp [u6.cut,this]
theorem m7 {code:Code} {st':St} (h:a1r c.nb0 st st') (hw:Wp c code Q st'):Wp c code Q st:=fun E a w s=>hw _ a w (h.sr s)
theorem a9b {x:Code} {ι:Type} (S:ι→St) (m:ι→Nat) (i0:ι) (h0:a1r c.nb0 st (S i0)) (h:∀i,Wp c x (Nxt (fun st'=>∃j,a1r c.nb0 st' (S j)∧m j < m i) Q) (S i)):Wp c (.loop x) Q st:=by
  refine m7 h0 ?_
  intro E a w s b k cs
  have key:∀n i,m i=n→∀E a w,SR c (S i) E a w→∃e a' w',(∃st E,SR c st E a' w'∧Q e st)∧Arrives c.P (lone (b.at a (.code x :: .inLoop x :: k)) cs w) b k cs e a' w':=by
    intro n
    induction n using Nat.strongRecOn with
    | _ n ih =>
      intro i hn E a w s
      obtain ⟨e,a1,w1,⟨st1,E1,s1,q⟩,harr⟩:=h i E a w s b (.inLoop x :: k) cs
      cases e with
      | normal =>
        obtain ⟨j,hw,hlt⟩:=q
        obtain ⟨e2,a2,w2,q2,harr2⟩:=ih (m j) (hn ▸ hlt) j rfl _ a1 w1 (hw.sr s1)
        exact ⟨e2,a2,w2,q2,.of_steps (Steps.trans harr (.one step_inLoop)) harr2⟩
      | exit id=>exact ⟨_,a1,w1,⟨st1,E1,s1,q⟩,.pass (x:=.inLoop x) rfl (fun _ _=>.inl (by simp)) harr⟩
      | goto l=>exact ⟨_,a1,w1,⟨st1,E1,s1,q⟩,.pass (x:=.inLoop x) rfl (fun _ _=>.inl (by simp)) harr⟩
      | ret=>exact ⟨_,a1,w1,⟨st1,E1,s1,q⟩,.pass (x:=.inLoop x) rfl (fun _ _=>.inl (by simp)) harr⟩
      | panic ch=>exact ⟨_,a1,w1,⟨st1,E1,s1,q⟩,.pass (x:=.inLoop x) rfl (fun _ _=>.inl (by simp)) harr⟩
      | outgrown=>exact ⟨_,a1,w1,⟨st1,E1,s1,q⟩,.pass (x:=.inLoop x) rfl (fun _ _=>.inl (by simp)) harr⟩
  obtain ⟨e,a',w',hq,harr⟩:=key _ i0 rfl E a w s
  exact ⟨e,a',w',hq,.of_steps (.one step_loop) harr⟩
theorem m9 {x:Code} {α:Type} (S:α→St) (I:α→Prop) (m:α→Nat) (i0:α) (hi:I i0) (h0:a1r c.nb0 st (S i0)) (h:∀i,I i→Wp c x (Nxt (fun st'=>∃j,I j∧m j < m i∧a1r c.nb0 st' (S j)) Q) (S i)):Wp c (.loop x) Q st:=
  a9b (ι:={ a // I a }) (fun a=>S a.1) (fun a=>m a.1) ⟨i0,hi⟩ h0 fun i=>(h i.1 i.2).mono fun e st' q=>by
    cases e with
    | normal=>obtain ⟨j,h1,h2,h3⟩:=q;exact ⟨⟨j,h1⟩,h3,h2⟩
    | _=>exact q
theorem a4j {x y:Code} {α:Type} {Q':Exit→St→Prop} (S:α→St) (I:α→Prop) (h:Wp c x (Nxt (fun st'=>∃j,I j∧a1r c.nb0 st' (S j)) Q) st) (h2:∀i,I i→Wp c y Q' (S i)):Wp c x (Nxt (Wp c y Q') Q) st:=by
  refine h.mono fun e st' q=>?_
  cases e with
  | normal=>obtain ⟨j,h1,hj⟩:=q;exact m7 hj (h2 j h1)
  | _=>exact q
def a32 (nb:Nat):List (AV×AV)→Prop
  | []=>True
  | (x,y) :: r=>(Sub x y∧y.cl nb)∧a32 nb r
def a1g (nb:Nat):List (Nat×Option Box×Box)→Prop
  | []=>True
  | (b,x,y) :: r=>(Nat.ble (b+1) nb=true∧((y.ro=true∧y.n=0)∨∃bx,x=some bx∧bx.sz=y.sz∧y.n≤bx.n∧(bx.ro=true→y.ro=true∨0 < bx.n)∧∀i,i < y.n→u4 (bx.g i) (y.g i)∧clL nb (y.g i)))∧a1g nb r
def a0t (t:Nat→AV):List (Nat×AV)→List (AV×AV)
  | []=> []
  | (k,x) :: r=>(t k,x) :: a0t t r
def a08 (h:Nat→Option Box):List (Nat×Box)→List (Nat×Option Box×Box)
  | []=> []
  | (k,x) :: r=>(k,h k,x) :: a08 h r
theorem c7e {nb:Nat} {t:Nat→AV}:∀{l:List (Nat×AV)},a32 nb (a0t t l)→∀m,Sub (t m) (slots l m)∧(slots l m).cl nb
  | [],_,m=>⟨fun _ _ _ _=>trivial,trivial⟩
  | (k, x) :: r, h, m => by
    unfold slots a6d
    cases e:Nat.beq m k with
    | true=>rw [Nat.eq_of_beq_eq_true e];exact h.1
    | false=>exact c7e h.2 m
theorem c5q {nb:Nat} {h:Nat→Option Box}:∀{l:List (Nat×Box)},a1g nb (a08 h l)→∀b bx',boxes l b=some bx'→b < nb∧((bx'.ro=true∧bx'.n=0)∨∃bx,h b=some bx∧bx.sz=bx'.sz∧bx'.n≤bx.n∧(bx.ro=true→bx'.ro=true∨0 < bx.n)∧∀i,i < bx'.n→u4 (bx.g i) (bx'.g i)∧clL nb (bx'.g i))
  | [],_,b,bx',e=>(by cases e)
  | (k, x) :: r, hh, b, bx', e => by
    unfold boxes a5t at e
    cases e1:Nat.beq b k with
    | true=>rw [e1] at e;cases e;rw [Nat.eq_of_beq_eq_true e1];exact ⟨Nat.le_of_ble_eq_true hh.1.1,hh.1.2⟩
    | false=>rw [e1] at e;exact c5q hh.2 b bx' e
theorem b2n {nb0:Nat} {l:List (Nat×AV)} {hs:List (Nat×Box)} {nb:Nat} (h1:a32 nb (a0t st.t l)) (h2:a1g nb (a08 st.h hs)) (h3:Nat.ble nb0 nb=true):a1r nb0 st (n5 l hs nb):=
  ⟨c7e h1,c5q h2,Nat.le_of_ble_eq_true h3⟩
theorem a4h {nb:Nat}:a32 nb []:=trivial
theorem a2r {nb:Nat} {x y:AV} {r:List (AV×AV)} (h2:y.cl nb) (h1:Sub x y) (h3:a32 nb r):a32 nb ((x,y) :: r):=⟨⟨h1,h2⟩,h3⟩
theorem a2b {nb:Nat} {x:AV} {r:List (AV×AV)} (h2:x.cl nb) (h3:a32 nb r):a32 nb ((x,x) :: r):=⟨⟨Sub.refl x,h2⟩,h3⟩
theorem a28 {nb:Nat}:a1g nb []:=trivial
theorem a3j {nb b n n' sz:Nat} {g g':Nat→List i7} {ro':Bool} {r:List (Nat×Option Box×Box)} (h0:Nat.ble (b+1) nb=true) (hcl:∀i,i < n→clL nb (g' i)) (hn:n=n') (h:∀i,i < n→g i=g' i) (h3:a1g nb r):a1g nb ((b,some ⟨sz,n,g,false⟩,⟨sz,n',g',ro'⟩) :: r):=
  ⟨⟨h0,.inr ⟨_,rfl,rfl,Nat.le_of_eq hn.symm,(fun e=>(by cases e)),fun i hi=>⟨u4.of_eq (h i (hn ▸ hi)),hcl i (hn ▸ hi)⟩⟩⟩,h3⟩
theorem a6x {nb b n n' sz:Nat} {g g':Nat→List i7} {ro:Bool} {r:List (Nat×Option Box×Box)} (h0:Nat.ble (b+1) nb=true) (hcl:∀i,i < n→clL nb (g' i)) (hn:n=n') (h:∀i,i < n→g i=g' i) (h3:a1g nb r):a1g nb ((b,some ⟨sz,n,g,ro⟩,⟨sz,n',g',true⟩) :: r):=
  ⟨⟨h0,.inr ⟨_,rfl,rfl,Nat.le_of_eq hn.symm,(fun _=>.inl rfl),fun i hi=>⟨u4.of_eq (h i (hn ▸ hi)),hcl i (hn ▸ hi)⟩⟩⟩,h3⟩
theorem c5p {nb b n n' sz:Nat} {g g':Nat→List i7} {ro ro':Bool} {r:List (Nat×Option Box×Box)} (h0:Nat.ble (b+1) nb=true) (hp:0 < n') (hcl:∀i,i < n'→clL nb (g' i)) (hn:n'≤n) (h:∀i,i < n'→g i=g' i) (h3:a1g nb r):a1g nb ((b,some ⟨sz,n,g,ro⟩,⟨sz,n',g',ro'⟩) :: r):=
  ⟨⟨h0,.inr ⟨_,rfl,rfl,hn,(fun _=>.inr (Nat.lt_of_lt_of_le hp hn)),fun i hi=>⟨u4.of_eq (h i hi),hcl i hi⟩⟩⟩,h3⟩
theorem b4i {nb b sz:Nat} {x:Option Box} {g':Nat→List i7} {r:List (Nat×Option Box×Box)} (h0:Nat.ble (b+1) nb=true) (h3:a1g nb r):a1g nb ((b,x,⟨sz,0,g',true⟩) :: r):=⟨⟨h0,.inl ⟨rfl,rfl⟩⟩,h3⟩
theorem a7y {k:IntKind} {a b:Int} (h:a=b):Sub (.one (.v (.int k a))) (.one (.v (.int k b))):=h ▸ Sub.refl _
theorem a5g {b sz i n c n' c':Nat} (hn:n=n') (hc:c=c'):Sub (.one (.own b sz i n c)) (.one (.own b sz i n' c')):=hn ▸ hc ▸ Sub.refl _
inductive a9v where
  | nil
  | node (l:a9v) (k:Nat) (v:TyI) (r:a9v)
def a9v.find:a9v→Nat→Option TyI
  | .nil,_=>none
  | .node l k v r, n => match Nat.beq n k with
    | true=>some v
    | false => match Nat.ble n k with
      | true=>l.find n
      | false=>r.find n
def a9v.Ok (P:Program):a9v→Prop
  | .nil=>True
  | .node l k v r=>l.Ok P∧tyI P k=some v∧r.Ok P
theorem b0m {P:Program}:∀{t:a9v},t.Ok P→a2e P t.find
  | .nil,_=>fun _ _ h=>(by cases h)
  | .node l k v r, ⟨h1, h2, h3⟩ => fun T ti h => by
    unfold a9v.find at h
    split at h
    · rename_i e;cases h;rw [Nat.eq_of_beq_eq_true e];exact h2
    · split at h
      · exact b0m h1 T ti h
      · exact b0m h3 T ti h
-- axioms of a9b
end Go.Ax
end
section
namespace Go.Ax
theorem b2b (o:List Nat) (d j:Nat):(o++ [d]).getD j 0=if j=o.length then d else o.getD j 0:=by
  simp only [List.getD_eq_getElem?_getD]
  by_cases h:j=o.length
  · subst h;simp
  · rw [if_neg h]
    rcases Nat.lt_or_ge j o.length with h1|h1
    · rw [List.getElem?_append_left h1]
    · rw [List.getElem?_eq_none (by simp;omega),List.getElem?_eq_none h1]
theorem b01 {k:IntKind} {o:List Nat} {X:Int} {d p:Nat} (j:Nat) (hp:p=o.length) (hX:X=(d:Int)) :
    (if j=p then [i7.v (.int k X)] else [i7.v (.int k ((o.getD j 0:Nat):Int))])= [i7.v (.int k (((o++ [d]).getD j 0:Nat):Int))]:=by
  subst hp hX
  rw [b2b]
  split <;> rfl
theorem a06 {k:IntKind} {o:List Nat} {X:Int} {d p i:Nat} (j:Nat) (hp:p=i) (hX:X=(d:Int)) (hi:i < o.length) :
    (if j=p then [i7.v (.int k X)] else [i7.v (.int k ((o.getD j 0:Nat):Int))])= [i7.v (.int k (((o.set i d).getD j 0:Nat):Int))]:=by
  subst hp hX
  simp only [List.getD_eq_getElem?_getD]
  by_cases h:j=p
  · subst h;simp [hi]
  · rw [if_neg h,List.getElem?_set_ne (fun e'=>h e'.symm)]
abbrev G0:World→Prop:=fun _=>True
theorem b1i {P:Program} {G:World→Prop} {f:FuncId} {args:List AV} {r:AV} (h:Pure P G0 f args r):Pure P G f args r:=⟨h.callable,h.cl,fun E w vs a b _ d e=>h.calls E w vs a b trivial d e⟩
theorem c2r {P:Program} {G:World→Prop} {f:FuncId} {bx bx':Box} {args:List AV} {r:AV} (h:b0v P G0 f bx args r bx'):b0v P G f bx args r bx':=⟨h.nro,h.callable,h.one,h.cl,h.bcl,fun E w vs k a b c d _ e f=>h.calls E w vs k a b c d trivial e f⟩
theorem c08 {P:Program} {G:World→Prop} {f:FuncId} {args:List AV} {n:Nat} {g:Nat→List i7} (k:IntKind) (ls:List Int) (h:b6e P G f args 1 n n n g) (hn:ls.length=n) (hg:∀i,i < n→g i= [.v (.int k (ls.getD i 0))]):Pure P G f args (.one (.ints k ls)):=by
  refine ⟨h.callable,⟨h.cl,trivial⟩,fun E w vs hE hok hgw _ hvs=>(h.calls E w vs (fun b=>hE b (Nat.zero_le _)) hok hgw hvs).mono fun e w' ⟨kb,h1,h2,h3,h4,h5⟩=>⟨_,h1,⟨rfl,_,rfl,.inr ⟨kb,0,n,by rw [hn],⟨h3,fun hM=>?_,fun b=>?_⟩,by omega,fun j v hv=>?_⟩⟩,h4⟩⟩
  · have:=hok.m kb hM;omega
  · rw [hE b (Nat.zero_le _)];exact fun h=>(by cases h)
  · rcases h5 with ⟨q,_⟩|⟨kb',c,T,q1,q2,q3,q4⟩
    · cases q
    have q1:some kb=some kb':=by simpa [u6.add] using q1
    cases q1
    have hj:j < n:=by have:=(List.getElem?_eq_some_iff.1 hv).1;simp at this;omega
    obtain ⟨es,h5,h6,h7⟩:=q4 j hj
    dsimp only at h6 h7
    rw [hg j hj] at h6
    obtain ⟨xs,ys,rfl,⟨rfl,_⟩,h9⟩:=h6
    obtain rfl:ys= []:=h9
    have:=h7 0 (.int k (ls.getD j 0)) rfl
    rw [cell_of_row w' kb _ c T (0,0) q2]
    simp only [Nat.mul_one,Nat.add_zero] at this
    rw [Nat.zero_add,this,←hv]
    have hj':j < ls.length:=by omega
    simp [List.getD_eq_getElem?_getD,hj']
theorem a0w {x1 x2 y1 y2:AV} (h1:Sub x1 y1) (h2:Sub x2 y2):Sub (.tup [x1,x2]) (.tup [y1,y2]):=by
  rintro E w v ⟨vs,hv,v1,r,e,a1,v2,r',e',a2,e''⟩
  exact ⟨vs,hv,v1,r,e,h1 _ _ _ a1,v2,r',e',h2 _ _ _ a2,e''⟩
theorem c4y {k:IntKind}:Sub (.one (.v (.slice none 0 0))) (.one (.ints k [])):=by
  rintro E w v ⟨_,h,_⟩
  simp only [List.cons.injEq,and_true] at h
  exact ⟨rfl,v,rfl,.inl ⟨rfl,h⟩⟩
theorem a4v {n:Nat} {g:Nat→List i7} {k:IntKind} {ls:List Int} (hn:ls.length=n) (hg:∀i,i < n→g i= [.v (.int k (ls.getD i 0))]):Sub (.one (.row 1 n g)) (.one (.ints k ls)):=by
  rintro E w v ⟨_,h⟩
  refine ⟨rfl,v,rfl,?_⟩
  rcases h with ⟨h0,h⟩|⟨b,o,c,h,h1,h2,h3⟩
  · simp only [List.cons.injEq,and_true] at h
    exact .inl ⟨List.length_eq_zero_iff.1 (by omega),h⟩
  · simp only [List.cons.injEq,and_true] at h
    refine .inr ⟨b,o,c,by rw [hn];exact h,h1,by omega,fun j x hx=>?_⟩
    have hj:j < n:=by have:=(List.getElem?_eq_some_iff.1 hx).1;simp at this;omega
    obtain ⟨es,h5,h6,h7⟩:=h3 j hj
    rw [hg j hj] at h6
    obtain ⟨xs,ys,rfl,⟨rfl,_⟩,h9⟩:=h6
    obtain rfl:ys= []:=h9
    have:=h7 0 (.int k (ls.getD j 0)) rfl
    simp only [Nat.mul_one,Nat.add_zero] at this
    rw [this,←hx]
    have hj':j < ls.length:=by omega
    simp [List.getD_eq_getElem?_getD,hj']
variable {c:Ctx} {Q:Exit→St→Prop} {st:St}
theorem b36 {b n:Nat} {k:IntKind} {f:Nat→Int} (l:List (Nat×AV)) (m:Nat):b4c b k n f (slots l m)=slots (l.map fun p=>(p.1,b4c b k n f p.2)) m:=by
  induction l with
  | nil=>rfl
  | cons p l ih =>
    obtain ⟨x,a⟩:=p
    simp only [slots,a6d,List.map_cons]
    cases Nat.beq m x with
    | true=>rfl
    | false=>exact ih
theorem b3l {b n:Nat} {k:IntKind} {f:Nat→Int} (l:List (Nat×Box)) (m:Nat):(boxes l m).map (a35 b k n f)=boxes (l.map fun p=>(p.1,a35 b k n f p.2)) m:=by
  induction l with
  | nil=>rfl
  | cons p l ih =>
    obtain ⟨x,a⟩:=p
    simp only [boxes,a5t,List.map_cons]
    cases Nat.beq m x with
    | true=>rfl
    | false=>exact ih
theorem a9w {code:Code} (hc:a0d c) (b s n:Nat) (k:IntKind) (ls:List Int) (l:List (Nat×AV)) (hs:List (Nat×Box)) (nb:Nat) (l':List (Nat×AV)) (hs':List (Nat×Box))
    (hw:a1r c.nb0 st (n5 ((s,.one (.own b 1 0 n n)) :: l) ((b,⟨1,n,fun i=> [.v (.int k (ls.getD i 0))],false⟩) :: hs) nb))
    (hb:c.nb0≤b) (hn:ls.length=n)
    (hl:l.map (fun p=>(p.1,b4c b k n (fun i=>ls.getD i 0) p.2))=l') (hh:hs.map (fun p=>(p.1,a35 b k n (fun i=>ls.getD i 0) p.2))=hs') (hnb:∀p∈hs,p.1≠b)
    (h:Wp c code Q (n5 ((s,.one (.ints k ls)) :: l') hs' nb)):Wp c code Q st:=by
  refine m7 hw ?_
  refine b6f hc b hb (bx:=⟨1,n,fun i=> [.v (.int k (ls.getD i 0))],false⟩) (by simp [n5,boxes,a5t]) rfl k (fun i=>ls.getD i 0) (fun i _=>rfl) ?_
  have e:(List.range n).map (fun j=>ls.getD (0+j) 0)=ls:=by
    subst hn
    apply List.ext_getElem
    · simp
    · intro i h1 h2;simp [h2]
  have et:(⟨fun m=>b4c b k n (fun i=>ls.getD i 0) ((n5 ((s,.one (.own b 1 0 n n)) :: l) ((b,⟨1,n,fun i=> [.v (.int k (ls.getD i 0))],false⟩) :: hs) nb).t m),fun x=>if x=b then none else ((n5 ((s,.one (.own b 1 0 n n)) :: l) ((b,⟨1,n,fun i=> [.v (.int k (ls.getD i 0))],false⟩) :: hs) nb).h x).map (a35 b k n (fun i=>ls.getD i 0)),nb⟩:St)=n5 ((s,.one (.ints k ls)) :: l') hs' nb:=by
    simp only [n5,St.mk.injEq,and_true]
    refine ⟨?_,?_⟩
    · funext m
      rw [b36,List.map_cons,hl]
      simp only [b4c,a71,if_true,Nat.zero_add,Nat.le_refl,and_self]
      have e':(List.range n).map (fun j=>ls.getD j 0)=ls:=by simpa using e
      rw [e']
    · funext x
      by_cases hx:x=b
      · subst hx
        rw [if_pos rfl]
        have:∀(q:List (Nat×Box)),(∀p∈q,p.1≠x)→boxes q x=none:=by
          intro q
          induction q with
          | nil=>intro _;rfl
          | cons p q ih =>
            intro hq
            have h1:=hq p (List.mem_cons_self ..)
            simp only [boxes,a5t]
            cases e1:Nat.beq x p.1 with
            | true=>exact absurd (Nat.eq_of_beq_eq_true e1).symm h1
            | false=>exact ih fun p hp=>hq p (List.mem_cons_of_mem _ hp)
        rw [this]
        intro p hp
        rw [←hh] at hp
        obtain ⟨q,hq,rfl⟩:=List.mem_map.1 hp
        exact hnb q hq
      · rw [if_neg hx]
        have:boxes ((b,⟨1,n,fun i=> [.v (.int k (ls.getD i 0))],false⟩) :: hs) x=boxes hs x:=by
          simp only [boxes,a5t]
          cases e1:Nat.beq x b with
          | true=>exact absurd (Nat.eq_of_beq_eq_true e1) hx
          | false=>rfl
        rw [this,b3l,hh]
  rw [←et] at h
  exact h
end Go.Ax
end
section
namespace Go.Ax
theorem a2c (B:Nat):∀xs ys:List Nat,val B (xs++ys)=val B xs+B ^ xs.length*val B ys
  | [],ys=>by simp [val]
  | x :: xs, ys => by
    simp only [List.cons_append,val,a2c B xs ys,List.length_cons,Nat.pow_succ]
    rw [Nat.mul_add,Nat.add_assoc,←Nat.mul_assoc,Nat.mul_comm B (B ^ xs.length)]
theorem a03 (B:Nat):∀xs:List Nat,(∀d∈xs,d < B)→val B xs < B ^ xs.length
  | [],_=>by simp [val]
  | x :: xs, h => by
    have h1:=a03 B xs fun d hd=>h d (by simp [hd])
    have h2:=h x (by simp)
    simp only [val,List.length_cons,Nat.pow_succ]
    have:B*(val B xs+1)≤B*B ^ xs.length:=Nat.mul_le_mul_left B h1
    rw [Nat.mul_add] at this
    rw [Nat.mul_comm (B ^ xs.length) B]
    omega
abbrev y7 (l:List Nat):List Int:=l.map Int.ofNat
def a04:List Nat→List Nat
  | []=> []
  | d :: ds => match a04 ds with
    | []=>if d=0 then [] else [d]
    | r=>d :: r
theorem a4d (d:Nat) (ds:List Nat):a04 (d :: ds)=if a04 ds= []∧d=0 then [] else d :: a04 ds:=by
  simp only [a04]
  cases h:a04 ds with
  | nil=>by_cases e:d=0 <;> simp [e]
  | cons a r=>simp
theorem b2k (B:Nat):∀xs:List Nat,val B (a04 xs)=val B xs
  | []=>rfl
  | x :: xs => by
    rw [a4d]
    split
    · rename_i h
      have:=b2k B xs
      rw [h.1] at this
      simp [val,h.2,←this]
    · simp [val,b2k B xs]
theorem c2o:∀{xs:List Nat} {d:Nat},d∈a04 xs→d∈xs
  | [],_,h=>h
  | x :: xs, d, h => by
    rw [a4d] at h
    split at h
    · cases h
    · rcases List.mem_cons.1 h with h|h
      · simp [h]
      · simp [c2o h]
theorem b4d:∀xs:List Nat,(a04 xs).getLast?≠some 0
  | []=>by simp [a04]
  | x :: xs => by
    rw [a4d]
    split
    · simp
    · rename_i h
      cases ht:a04 xs with
      | nil =>
        have:x≠0:=fun e=>h ⟨ht,e⟩
        simpa using this
      | cons a r =>
        have:=b4d xs
        rw [ht] at this
        rw [List.getLast?_cons_cons]
        exact this
structure Dig (B:Nat) (ds:List Nat):Prop where
  lt:∀d∈ds,d < B
  last:ds.getLast?≠some 0
theorem Dig.nil (B:Nat):Dig B []:=⟨(fun _ h=>by cases h),(by simp)⟩
theorem Dig.trim {B:Nat} {xs:List Nat} (h:∀d∈xs,d < B):Dig B (a04 xs):=⟨fun d hd=>h d (c2o hd),b4d xs⟩
theorem Dig.tail {B d:Nat} {ds:List Nat} (h:Dig B (d :: ds)):Dig B ds:=by
  refine ⟨fun x hx=>h.lt x (by simp [hx]),fun e=>h.last ?_⟩
  cases ds with
  | nil=>cases e
  | cons a r=>rw [List.getLast?_cons_cons];exact e
theorem Dig.pos {B:Nat} (hB:0 < B):∀{ds:List Nat},Dig B ds→ds≠[]→0 < val B ds
  | [],_,h=>absurd rfl h
  | [d], h, _ => by
    have:d≠0:=fun e=>h.last (by simp [e])
    simp [val];omega
  | d :: e :: r, h, _ => by
    have:=Dig.pos hB h.tail (by simp)
    simp only [val] at this ⊢
    have h2:0 < B*(e+B*val B r):=Nat.mul_pos hB this
    omega
theorem Dig.eq {B:Nat} (hB:0 < B):∀{xs ys:List Nat},Dig B xs→Dig B ys→val B xs=val B ys→xs=ys
  | [],[],_,_,_=>rfl
  | [],y :: ys,_,hy,h=>by have:=hy.pos hB (by simp);rw [←h] at this;simp [val] at this
  | x :: xs,[],hx,_,h=>by have:=hx.pos hB (by simp);rw [h] at this;simp [val] at this
  | x :: xs, y :: ys, hx, hy, h => by
    simp only [val] at h
    have h1:=hx.lt x (by simp)
    have h2:=hy.lt y (by simp)
    have e1:x=y:=by
      have:=congrArg (·%B) h
      simpa [Nat.add_mul_mod_self_left,Nat.mod_eq_of_lt h1,Nat.mod_eq_of_lt h2] using this
    subst e1
    have e2:val B xs=val B ys:=by
      have:B*val B xs=B*val B ys:=by omega
      exact Nat.eq_of_mul_eq_mul_left hB this
    rw [Dig.eq hB hx.tail hy.tail e2]
def f7 (B n:Nat):List Nat:=go n n
where
  go:Nat→Nat→List Nat
    | 0,_=> []
    | f+1,n=>if n=0 then [] else n%B :: go f (n / B)
theorem c3q {B:Nat} (hB:2≤B):∀f n,n≤f→val B (f7.go B f n)=n∧Dig B (f7.go B f n)
  | 0, n, h => by obtain rfl : n = 0 := by omega
                  exact ⟨rfl,Dig.nil B⟩
  | f + 1, n, h => by
    simp only [f7.go]
    split
    · rename_i e;subst e;exact ⟨rfl,Dig.nil B⟩
    · rename_i e
      have hlt:n / B < n:=Nat.div_lt_self (by omega) (by omega)
      obtain ⟨h1,h2⟩:=c3q hB f (n / B) (by omega)
      refine ⟨?_,fun d hd=>?_,fun hl=>?_⟩
      · simp only [val,h1];exact Nat.mod_add_div n B
      · rcases List.mem_cons.1 hd with rfl|hd
        · exact Nat.mod_lt _ (by omega)
        · exact h2.lt d hd
      · cases hg:f7.go B f (n / B) with
        | nil =>
          rw [hg] at hl h1
          simp only [List.getLast?_singleton,Option.some.injEq] at hl
          simp only [val] at h1
          have:=Nat.mod_add_div n B
          rw [hl,←h1] at this
          omega
        | cons a r =>
          rw [hg,List.getLast?_cons_cons] at hl
          exact h2.last (by rw [hg];exact hl)
theorem j8 {B:Nat} (hB:2≤B) (n:Nat):val B (f7 B n)=n:=(c3q hB n n (Nat.le_refl n)).1
theorem j5 {B:Nat} (hB:2≤B) (n:Nat):Dig B (f7 B n):=(c3q hB n n (Nat.le_refl n)).2
theorem b4v {B:Nat} (hB:2≤B) {ds:List Nat} (h:Dig B ds):f7 B (val B ds)=ds:=(j5 hB _).eq (by omega) h (j8 hB _)
theorem b8j {B n:Nat} (hB:2≤B) {ds:List Nat} (h:Dig B ds) (hv:val B ds=n):f7 B n=ds:=by rw [←hv];exact b4v hB h
theorem a0r {B:Nat} (hB:2≤B) {xs:List Nat} (h:∀d∈xs,d < B):a04 xs=f7 B (val B xs):=by
  rw [←b2k B xs];exact (b4v hB (Dig.trim h)).symm
theorem a9e (B:Nat):f7 B 0= []:=rfl
theorem a2f {B n:Nat} (hB:2≤B):f7 B n= []↔n=0:=⟨fun h=>by have:=j8 hB n;rw [h] at this;exact this.symm,fun h=>by subst h;rfl⟩
theorem Dig.lower {B:Nat} (hB:0 < B):∀{ds:List Nat},Dig B ds→ds≠[]→B ^ (ds.length - 1)≤val B ds
  | [],_,h=>absurd rfl h
  | [d], h, _ => by
    have:d≠0:=fun e=>h.last (by simp [e])
    simp [val];omega
  | d :: e :: r, h, _ => by
    have:=Dig.lower hB h.tail (by simp)
    simp only [List.length_cons,Nat.add_sub_cancel,val] at this ⊢
    have h2:B*B ^ r.length≤B*(e+B*val B r):=Nat.mul_le_mul_left B this
    rw [Nat.pow_succ,Nat.mul_comm]
    omega
theorem a3d {B n k:Nat} (hB:2≤B) (h:n < B ^ k):(f7 B n).length≤k:=by
  rcases Nat.lt_or_ge k (f7 B n).length with hlt|hge
  · have hne:f7 B n≠[]:=by intro e;rw [e] at hlt;simp at hlt
    have h1:=(j5 hB n).lower (by omega) hne
    rw [j8 hB] at h1
    have:B ^ k≤B ^ ((f7 B n).length - 1):=Nat.pow_le_pow_right (by omega) (by omega)
    omega
  · exact hge
theorem b4w {B n:Nat} (hB:2≤B):n < B ^ (f7 B n).length:=by
  have:=a03 B (f7 B n) (j5 hB n).lt
  rwa [j8 hB] at this
end Go.Ax
end
section
namespace Go.Ax
abbrev BB:Nat:=18446744073709551616
theorem s7 (B:Nat) (l:List Nat) (k:Nat):val B (l.take (k+1))=val B (l.take k)+B ^ k*l.getD k 0:=by
  by_cases h:k < l.length
  · rw [List.take_succ_eq_append_getElem h,a2c]
    simp [val,List.getD_eq_getElem?_getD,h,Nat.min_eq_left (Nat.le_of_lt h)]
  · have h:l.length≤k:=by omega
    rw [List.take_of_length_le h,List.take_of_length_le (by omega)]
    simp [List.getD_eq_getElem?_getD,List.getElem?_eq_none h]
theorem a5q (B:Nat) (l:List Nat) {k:Nat} (h:l.length≤k):val B (l.take k)=val B l:=by rw [List.take_of_length_le h]
theorem r5 {B:Nat} (hB:0 < B) {l:List Nat} (h:∀d∈l,d < B) (k:Nat):l.getD k 0 < B:=by
  rw [List.getD_eq_getElem?_getD]
  cases e:l[k]? with
  | none=>simpa using hB
  | some d=>exact h d (List.mem_of_getElem? e)
theorem a12 (B:Nat) (o:List Nat) (d:Nat):val B (o++ [d])=val B o+B ^ o.length*d:=by rw [a2c];simp [val]
theorem a2d {B:Nat} {o:List Nat} {d:Nat} (h:∀d∈o,d < B) (hd:d < B):∀e∈o++ [d],e < B:=by
  intro e he
  rcases List.mem_append.1 he with he|he
  · exact h e he
  · simp at he;rw [he];exact hd
structure a5r (B:Nat) (x y o:List Nat) (c:Nat):Prop where
  lt:∀d∈o,d < B
  hc:c≤1
  len:o.length≤x.length
  eq:val B o+B ^ o.length*c=val B (x.take o.length)+val B (y.take o.length)
theorem a5r.step {B:Nat} (hB:2≤B) {x y o:List Nat} {c:Nat} (h:a5r B x y o c) (hx:∀d∈x,d < B) (hy:∀d∈y,d < B) (hl:o.length < x.length) :
    a5r B x y (o++ [(x.getD o.length 0+y.getD o.length 0+c)%B]) ((x.getD o.length 0+y.getD o.length 0+c) / B):=by
  have h1:=r5 (by omega) hx o.length
  have h2:=r5 (by omega) hy o.length
  have h3:=h.hc
  refine ⟨a2d h.lt (Nat.mod_lt _ (by omega)),?_,by simp;omega,?_⟩
  · have:x.getD o.length 0+y.getD o.length 0+c < 2*B:=by omega
    have:=Nat.div_lt_of_lt_mul (show x.getD o.length 0+y.getD o.length 0+c < B*2 by omega)
    omega
  · rw [a12,List.length_append,List.length_singleton,s7,s7]
    have h4:=h.eq
    have h5:=Nat.mod_add_div (x.getD o.length 0+y.getD o.length 0+c) B
    generalize x.getD o.length 0=a at *
    generalize y.getD o.length 0=b at *
    generalize (a+b+c)%B=r at *
    generalize (a+b+c) / B=q at *
    rw [Nat.pow_succ]
    generalize B ^ o.length=p at *
    grind
structure a9a (B:Nat) (x y o:List Nat) (c:Nat):Prop where
  lt:∀d∈o,d < B
  hc:c≤1
  len:o.length≤x.length
  eq:val B o+val B (y.take o.length)=val B (x.take o.length)+B ^ o.length*c
theorem a9a.step {B:Nat} (hB:2≤B) {x y o:List Nat} {c:Nat} (h:a9a B x y o c) (hx:∀d∈x,d < B) (hy:∀d∈y,d < B) (hl:o.length < x.length) :
    a9a B x y (o++ [(x.getD o.length 0+B - y.getD o.length 0 - c)%B]) (if x.getD o.length 0 < y.getD o.length 0+c then 1 else 0):=by
  have h1:=r5 (by omega) hx o.length
  have h2:=r5 (by omega) hy o.length
  have h3:=h.hc
  refine ⟨a2d h.lt (Nat.mod_lt _ (by omega)),by split <;> omega,by simp;omega,?_⟩
  rw [a12,List.length_append,List.length_singleton,s7,s7]
  have h4:=h.eq
  have h5:(x.getD o.length 0+B - y.getD o.length 0 - c)%B+y.getD o.length 0+c=x.getD o.length 0+B*(if x.getD o.length 0 < y.getD o.length 0+c then 1 else 0):=by
    split
    · rw [Nat.mod_eq_of_lt (by omega)];omega
    · rw [Nat.mod_eq_sub_mod (by omega),Nat.mod_eq_of_lt (by omega)];omega
  generalize x.getD o.length 0=a at *
  generalize y.getD o.length 0=b at *
  generalize (a+B - b - c)%B=r at *
  generalize (if a < b+c then 1 else 0)=q at *
  rw [Nat.pow_succ]
  generalize B ^ o.length=p at *
  grind
theorem a5r.nil {B:Nat} (x y:List Nat):a5r B x y [] 0:=⟨(fun _ h=>by cases h),by omega,by simp,by simp [val]⟩
theorem a9a.nil {B:Nat} (x y:List Nat):a9a B x y [] 0:=⟨(fun _ h=>by cases h),by omega,by simp,by simp [val]⟩
theorem a5r.done {B:Nat} {x y o:List Nat} {c:Nat} (h:a5r B x y o c) (hl:o.length=x.length) (hxy:y.length≤x.length):val B (o++ [c])=val B x+val B y:=by
  rw [a12,h.eq,hl,List.take_length,a5q B y hxy]
theorem a9a.done {B:Nat} {x y o:List Nat} {c:Nat} (h:a9a B x y o c) (hl:o.length=x.length) (hxy:y.length≤x.length) (hle:val B y≤val B x):val B o=val B x - val B y:=by
  have h1:=h.eq
  rw [hl,List.take_length,a5q B y hxy,←hl] at h1
  have h2:=a03 B o h.lt
  have h3:c=0∨c=1:=by have:=h.hc;omega
  rcases h3 with rfl|rfl <;> omega
def a5v (m n:Nat):Int:=if m < n then -1 else if n < m then 1 else 0
theorem a93 {B:Nat} (hB:2≤B) {x y:List Nat} (hx:Dig B x) (hy:Dig B y) (h:x.length < y.length):val B x < val B y:=by
  have h1:=a03 B x hx.lt
  have h2:=hy.lower (by omega) (by intro e;rw [e] at h;simp at h)
  have:B ^ x.length≤B ^ (y.length - 1):=Nat.pow_le_pow_right (by omega) (by omega)
  omega
theorem c3p {B:Nat} {x y:List Nat} (hx:∀d∈x,d < B) (hl:x.length=y.length) {k:Nat} (hk:k < x.length) (he:x.drop (k+1)=y.drop (k+1)) (h:x.getD k 0 < y.getD k 0):val B x < val B y:=by
  have e1:val B x=val B (x.take (k+1))+B ^ (k+1)*val B (x.drop (k+1)):=by
    conv=>lhs;rw [←List.take_append_drop (k+1) x]
    rw [a2c,List.length_take,Nat.min_eq_left (by omega)]
  have e2:val B y=val B (y.take (k+1))+B ^ (k+1)*val B (y.drop (k+1)):=by
    conv=>lhs;rw [←List.take_append_drop (k+1) y]
    rw [a2c,List.length_take,Nat.min_eq_left (by omega)]
  rw [e1,e2,he,s7,s7]
  have h1:=a03 B (x.take k) fun d hd=>hx d (List.mem_of_mem_take hd)
  rw [List.length_take,Nat.min_eq_left (by omega)] at h1
  have:B ^ k*(x.getD k 0+1)≤B ^ k*y.getD k 0:=Nat.mul_le_mul_left _ h
  rw [Nat.mul_add] at this
  omega
theorem b4y {x y:List Nat} {k:Nat} (hk:k < x.length) (hl:x.length=y.length) (he:x.drop (k+1)=y.drop (k+1)) (h:x.getD k 0=y.getD k 0):x.drop k=y.drop k:=by
  rw [List.drop_eq_getElem_cons hk,List.drop_eq_getElem_cons (by omega:k < y.length),he]
  simp [List.getD_eq_getElem?_getD,hk,show k < y.length by omega] at h
  rw [h]
end Go.Ax
end
section
namespace Go.Ax
theorem b0o (B:Nat):∀(o:List Nat) (k d:Nat),k < o.length→val B (o.set k d)+B ^ k*o.getD k 0=val B o+B ^ k*d
  | [],k,d,h=>by simp at h
  | x :: o,0,d,h=>by simp [val];omega
  | x :: o, k + 1, d, h => by
    have ih:=b0o B o k d (by simpa using h)
    have e:(x :: o).getD (k+1) 0=o.getD k 0:=by simp [List.getD_eq_getElem?_getD]
    rw [e]
    simp only [List.set_cons_succ,val,Nat.pow_succ]
    generalize o.getD k 0=y at *
    generalize val B (o.set k d)=s at *
    generalize val B o=t at *
    generalize B ^ k=p at *
    grind
theorem a2g {o:List Nat} {i:Nat} (d j:Nat) (h:i < o.length):(o.set i d).getD j 0=if j=i then d else o.getD j 0:=by
  simp only [List.getD_eq_getElem?_getD]
  by_cases e:j=i
  · subst e;simp [h]
  · rw [List.getElem?_set_ne (fun e'=>e e'.symm),if_neg e]
theorem b69 {B:Nat} {o:List Nat} (h:∀d∈o,d < B) {i d:Nat} (hd:d < B):∀e∈o.set i d,e < B:=by
  intro e he
  rcases List.mem_or_eq_of_mem_set he with he|he
  · exact h e he
  · rw [he];exact hd
theorem d0t {B x y a c hi lo l1 c1 l2 c2:Nat} (hx:x < B) (hy:y < B) (ha:a < B) (hc:c < B)
    (e1:x*y=B*hi+lo) (e2:lo+a=B*c1+l1) (e3:l1+c=B*c2+l2) (h2:l2 < B) :
    hi+c1+c2 < B∧l2+B*(hi+c1+c2)=x*y+a+c:=by
  have e:l2+B*(hi+c1+c2)=x*y+a+c:=by
    rw [Nat.mul_add,Nat.mul_add];omega
  refine ⟨?_,e⟩
  have h3:x*y≤(B - 1)*(B - 1):=Nat.mul_le_mul (by omega) (by omega)
  rcases Nat.lt_or_ge (hi+c1+c2) B with h|h
  · exact h
  · have h4:B*B≤B*(hi+c1+c2):=Nat.mul_le_mul_left B h
    obtain ⟨b,rfl⟩:∃b,B=b+1:=⟨B - 1,by omega⟩
    have h5:(b+1)*(b+1)=b*b+2*b+1:=by grind
    simp only [Nat.add_sub_cancel] at h3
    omega
structure b80 (B p i x:Nat) (y o:List Nat) (j c:Nat):Prop where
  lt:∀d∈o,d < B
  hc:c < B
  hj:j≤y.length
  len:i+y.length < o.length
  eq:val B o+B ^ (i+j)*c=p+B ^ i*(x*val B (y.take j))
  zero:∀k,i+y.length≤k→o.getD k 0=0
theorem b80.step {B p i x:Nat} {y o:List Nat} {j c l c':Nat} (h:b80 B p i x y o j c) (hj:j < y.length) (hl:l < B) (hc':c' < B)
    (e:l+B*c'=x*y.getD j 0+o.getD (i+j) 0+c):b80 B p i x y (o.set (i+j) l) (j+1) c':=by
  have hlen:=h.len
  refine ⟨b69 h.lt hl,hc',hj,by rw [List.length_set];exact hlen,?_,fun k hk=>?_⟩
  · have h1:=b0o B o (i+j) l (by omega)
    have h2:=h.eq
    rw [s7,←Nat.add_assoc,Nat.pow_succ]
    rw [Nat.pow_add] at h1 h2 ⊢
    generalize val B (o.set (i+j) l)=s at *
    generalize val B o=t at *
    generalize val B (y.take j)=v at *
    generalize y.getD j 0=yj at *
    generalize o.getD (i+j) 0=oj at *
    generalize B ^ i=a at *
    generalize B ^ j=b at *
    have h3:a*b*(l+B*c')=a*b*(x*yj+oj+c):=by rw [e]
    grind
  · rw [a2g _ _ (by omega),if_neg (by omega)];exact h.zero k hk
structure a2x (B:Nat) (x y o:List Nat) (i:Nat):Prop where
  lt:∀d∈o,d < B
  hi:i≤x.length
  len:o.length=x.length+y.length
  eq:val B o=val B (x.take i)*val B y
  zero:∀k,i+y.length≤k→o.getD k 0=0
theorem a2x.start {B:Nat} {x y o:List Nat} {i:Nat} (h:a2x B x y o i) (hi:i < x.length) (hB:0 < B):b80 B (val B (x.take i)*val B y) i (x.getD i 0) y o 0 0:=
  ⟨h.lt,hB,Nat.zero_le _,by rw [h.len];omega,by rw [h.eq];simp [val],h.zero⟩
theorem a2x.next {B:Nat} {x y o:List Nat} {i c:Nat} (hi:i < x.length) (hl:o.length=x.length+y.length) (h:b80 B (val B (x.take i)*val B y) i (x.getD i 0) y o y.length c):a2x B x y (o.set (i+y.length) c) (i+1):=by
  refine ⟨b69 h.lt h.hc,hi,by rw [List.length_set];exact hl,?_,fun k hk=>?_⟩
  · have h1:=b0o B o (i+y.length) c h.len
    have h2:=h.eq
    rw [h.zero _ (Nat.le_refl _),Nat.mul_zero,Nat.add_zero] at h1
    rw [List.take_length] at h2
    rw [h1,h2,s7]
    generalize val B (x.take i)=a
    generalize val B y=b
    generalize x.getD i 0=d
    generalize B ^ i=e
    grind
  · rw [a2g _ _ h.len,if_neg (by omega)];exact h.zero k (by omega)
theorem a31 (B n:Nat):val B (List.replicate n 0)=0:=by
  induction n with
  | zero=>rfl
  | succ n ih=>simp [List.replicate_succ,val,ih]
theorem a2x.zero' {B:Nat} (hB:0 < B) (x y:List Nat):a2x B x y (List.replicate (x.length+y.length) 0) 0:=
  ⟨fun d hd=>by rw [(List.mem_replicate.1 hd).2];exact hB,Nat.zero_le _,by simp,by rw [a31];simp [val],fun k _=>by
    simp only [List.getD_eq_getElem?_getD,List.getElem?_replicate];split <;> rfl⟩
theorem a2x.done {B:Nat} {x y o:List Nat} (h:a2x B x y o x.length):val B o=val B x*val B y:=by
  have:=h.eq;rwa [List.take_length] at this
section
variable {B p q r v1 v2 Vl u3 Ul T U V:Nat}
theorem d8r (hV:V=(v1*B+v2)*p+Vl) (hU:U=(T*B+u3)*p+Ul) (hUl:Ul < p) (hu3:u3 < B) (h:T < (q+1)*v1):U < (q+1)*V:=by
  have h1:(T+1)*B*p≤(q+1)*v1*B*p:=Nat.mul_le_mul_right _ (Nat.mul_le_mul_right _ h)
  have h2:(u3+1)*p≤B*p:=Nat.mul_le_mul_right _ hu3
  have h3:(q+1)*V=(q+1)*v1*B*p+((q+1)*(v2*p)+(q+1)*Vl):=by rw [hV];grind
  have h4:U+(p - Ul)=T*B*p+(u3+1)*p:=by
    have:(u3+1)*p=u3*p+p:=by grind
    have:U=T*B*p+u3*p+Ul:=by rw [hU];grind
    omega
  have h5:(T+1)*B*p=T*B*p+B*p:=by grind
  omega
theorem d55 (hV:V=(v1*B+v2)*p+Vl) (hU:U=(T*B+u3)*p+Ul) (hUl:Ul < p) (hT:T=q*v1+r) (h:r*B+u3 < q*v2):U < q*V:=by
  have h1:(r*B+u3+1)*p≤q*v2*p:=Nat.mul_le_mul_right _ h
  have h2:q*V=q*v1*B*p+q*v2*p+q*Vl:=by rw [hV];grind
  have h3:U+(p - Ul)=q*v1*B*p+(r*B+u3+1)*p:=by
    have:(r*B+u3+1)*p=(r*B+u3)*p+p:=by grind
    have:U=q*v1*B*p+(r*B+u3)*p+Ul:=by rw [hU,hT];grind
    omega
  omega
theorem b8l (hV:V=(v1*B+v2)*p+Vl) (hU:U=(T*B+u3)*p+Ul) (hVl:Vl < p) (hT:T=q*v1+r) (hq:q < B) (hv1:0 < v1) (h:q*v2≤r*B+u3):q*V≤U+V:=by
  have h1:q*v2*p≤(r*B+u3)*p:=Nat.mul_le_mul_right _ h
  have h2:q*V=q*v1*B*p+q*v2*p+q*Vl:=by rw [hV];grind
  have h3:U=q*v1*B*p+(r*B+u3)*p+Ul:=by rw [hU,hT];grind
  have h4:q*Vl≤B*p:=Nat.mul_le_mul (Nat.le_of_lt hq) (Nat.le_of_lt hVl)
  have h5:1*(B*p)≤v1*(B*p):=Nat.mul_le_mul_right _ hv1
  have h6:V=v1*(B*p)+v2*p+Vl:=by rw [hV];grind
  omega
end
structure c02 (B q:Nat) (u v o:List Nat) (c b:Nat):Prop where
  lt:∀d∈o,d < B
  hc:c < B
  hb:b≤1
  len:o.length≤v.length
  eq:val B o+q*val B (v.take o.length)=val B (u.take o.length)+B ^ o.length*(c+b)
theorem c02.step {B q:Nat} {u v o:List Nat} {c b l c' d b':Nat} (h:c02 B q u v o c b) (hl:o.length < v.length) (hc':c' < B) (hd:d < B) (hb':b'≤1)
    (e1:q*v.getD o.length 0+c=l+B*c') (e2:d+l+b=u.getD o.length 0+B*b'):c02 B q u v (o++ [d]) c' b':=by
  refine ⟨a2d h.lt hd,hc',hb',by simp;omega,?_⟩
  rw [a12,List.length_append,List.length_singleton,s7,s7,Nat.pow_succ]
  have h2:=h.eq
  generalize val B o=s at *
  generalize val B (v.take o.length)=t at *
  generalize val B (u.take o.length)=w at *
  generalize v.getD o.length 0=vj at *
  generalize u.getD o.length 0=uj at *
  generalize B ^ o.length=a at *
  have h3:a*(q*vj+c)=a*(l+B*c'):=by rw [e1]
  have h4:a*(d+l+b)=a*(uj+B*b'):=by rw [e2]
  grind
theorem c02.nil {B q:Nat} (hB:0 < B) (u v:List Nat):c02 B q u v [] 0 0:=⟨(fun _ h=>by cases h),hB,by omega,by simp,by simp [val]⟩
theorem c02.done {B q:Nat} {u v o:List Nat} {c b d b':Nat} (h:c02 B q u v o c b) (hl:o.length=v.length) (hu:u.length=v.length+1) (e:d+c+b=u.getD v.length 0+B*b') :
    val B (o++ [d])+q*val B v=val B u+B ^ (v.length+1)*b':=by
  have h1:=h.eq
  have h2:val B u=val B (u.take v.length)+B ^ v.length*u.getD v.length 0:=by
    rw [←s7,List.take_of_length_le (by omega)]
  rw [hl,List.take_length] at h1
  rw [a12,hl,h2,Nat.pow_succ]
  generalize val B o=s at *
  generalize val B v=t at *
  generalize val B (u.take v.length)=w at *
  generalize u.getD v.length 0=uj at *
  generalize B ^ v.length=a at *
  have h4:a*(d+c+b)=a*(uj+B*b'):=by rw [e]
  grind
theorem d8s {B n q U V N b:Nat} (hq:U < (q+1)*V) (hq2:q*V≤U+V) (hN:N < B ^ (n+1)) (hU:U < B ^ (n+1)) (hV:V < B ^ n*1) (e:N+q*V=U+B ^ (n+1)*b) (hb:b=0):q=U / V∧N=U%V:=by
  subst hb
  have e:N+q*V=U:=by omega
  have hlt:N < V:=by rw [Nat.add_mul] at hq;omega
  have h:=Nat.div_mod_unique (show 0 < V by omega) (a:=U) (c:=N) (d:=q) |>.2 ⟨by rw [Nat.mul_comm];exact e,hlt⟩
  exact ⟨h.1.symm,h.2.symm⟩
theorem d8q {B n q U V N M b:Nat} (hq2:q*V≤U+V) (hN:N < B ^ (n+1)) (hM:M < B ^ (n+1)) (hV:V < B ^ n*1) (hVp:0 < V) (hB:2≤B) (e:N+q*V=U+B ^ (n+1)*b) (hb:b=1) (eM:∃k,M+B ^ (n+1)*k=N+V):q - 1=U / V∧M=U%V∧1≤q:=by
  subst hb
  obtain ⟨k,eM⟩:=eM
  have hpow:B ^ (n+1)=B ^ n*B:=Nat.pow_succ _ _
  have h2:B ^ n*2≤B ^ n*B:=Nat.mul_le_mul_left _ hB
  have hk:k=1:=by
    rcases Nat.lt_or_ge k 1 with h|h
    · obtain rfl:k=0:=by omega
      omega
    · rcases Nat.lt_or_ge k 2 with h'|h'
      · omega
      · have:=Nat.mul_le_mul_left (B ^ (n+1)) h'
        omega
  subst hk
  have h1:1≤q:=by
    rcases Nat.lt_or_ge 0 q with h|h
    · exact h
    · obtain rfl:q=0:=by omega
      omega
  obtain ⟨q',rfl⟩:∃q',q=q'+1:=⟨q - 1,by omega⟩
  rw [Nat.add_mul] at e hq2
  have eU:M+q'*V=U:=by omega
  have hlt:M < V:=by omega
  have h:=Nat.div_mod_unique (show 0 < V by omega) (a:=U) (c:=M) (d:=q') |>.2 ⟨by rw [Nat.mul_comm];exact eU,hlt⟩
  exact ⟨by rw [Nat.add_sub_cancel];exact h.1.symm,h.2.symm,h1⟩
end Go.Ax
end
section
namespace Go.Ax
theorem d7y (a:Int):((BitVec.ofInt 64 a &&& BitVec.ofInt 64 4294967295).toNat:Int)=a%4294967296:=by
  rw [BitVec.toNat_and]
  have h1:(BitVec.ofInt 64 4294967295).toNat=2 ^ 32 - 1:=by decide
  rw [h1,Nat.and_two_pow_sub_one_eq_mod,BitVec.toNat_ofInt]
  omega
theorem c5j (a:Int):((BitVec.ofInt IntKind.u64.bits a &&& BitVec.ofInt IntKind.u64.bits 4294967295).toNat:Int)=a%4294967296:=d7y a
theorem shr32 (a:Int):a.fdiv (2 ^ min 32 64)=a / 4294967296:=by
  rw [Int.fdiv_eq_ediv_of_nonneg _ (by decide)]
  rfl
theorem mul64 {W:Int→Int} (hW:∀a,0≤a→a < 18446744073709551616→W a=a) {x y x0 x1 y0 y1:Int} (hx:0≤x∧x < 18446744073709551616) (hy:0≤y∧y < 18446744073709551616)
    (ex0:x0=x%4294967296) (ex1:x1=x / 4294967296) (ey0:y0=y%4294967296) (ey1:y1=y / 4294967296) :
    W (W (W (x1*y1)+W (W (x1*W y0)+W (W x0*W y0) / 4294967296) / 4294967296)+W (W (W (W (x1*W y0)+W (W x0*W y0) / 4294967296)%4294967296)+W (W x0*y1)) / 4294967296)=x*y / 18446744073709551616:=by
  have b1:0≤x0∧x0≤4294967295:=by omega
  have b2:0≤x1∧x1≤4294967295:=by omega
  have b3:0≤y0∧y0≤4294967295:=by omega
  have b4:0≤y1∧y1≤4294967295:=by omega
  have ex:x=x1*4294967296+x0:=by omega
  have ey:y=y1*4294967296+y0:=by omega
  have bd:∀a b:Int,0≤a∧a≤4294967295→0≤b∧b≤4294967295→0≤a*b∧a*b≤18446744065119617025:=fun a b h1 h2=>
    ⟨Int.mul_nonneg h1.1 h2.1,Int.le_trans (Int.mul_le_mul h1.2 h2.2 h2.1 (by decide)) (by decide)⟩
  have e:x*y=x1*y1*18446744073709551616+(x1*y0+x0*y1)*4294967296+x0*y0:=by rw [ex,ey];grind
  rw [e,hW x0 (by omega) (by omega),hW y0 (by omega) (by omega)]
  have c1:=bd _ _ b1 b3
  have c2:=bd _ _ b1 b4
  have c3:=bd _ _ b2 b3
  have c4:=bd _ _ b2 b4
  generalize x0*y0=p00 at *
  generalize x0*y1=p01 at *
  generalize x1*y0=p10 at *
  generalize x1*y1=p11 at *
  clear e ex ey ex0 ex1 ey0 ey1 bd hx hy b1 b2 b3 b4
  rw [hW p00 (by omega) (by omega),hW p10 (by omega) (by omega),hW p01 (by omega) (by omega),hW p11 (by omega) (by omega)]
  rw [hW (p10+p00 / 4294967296) (by omega) (by omega)]
  rw [hW ((p10+p00 / 4294967296)%4294967296) (by omega) (by omega),hW (p11+_) (by omega) (by omega),hW (_+p01) (by omega) (by omega),hW _ (by omega) (by omega)]
  omega
end Go.Ax
end
section
namespace Go.Ax
def bl (x:Nat):Nat:=if x=0 then 0 else x.log2+1
theorem c91 (x:Nat):x < 2 ^ bl x:=by
  unfold bl;split
  · rename_i h;subst h;decide
  · exact Nat.lt_log2_self
theorem d90 {x:Nat} (h:x≠0):2 ^ (bl x - 1)≤x:=by
  unfold bl;rw [if_neg h,Nat.add_sub_cancel];exact Nat.log2_self_le h
theorem d4h {x:Nat} (h:x≠0):1≤bl x:=by unfold bl;rw [if_neg h];omega
theorem bl_eq {x n:Nat} (h1:2 ^ n≤x) (h2:x < 2 ^ (n+1)):bl x=n+1:=by
  have h0:x≠0:=by have:=Nat.two_pow_pos n;omega
  unfold bl;rw [if_neg h0,(Nat.log2_eq_iff h0).2 ⟨h1,h2⟩]
theorem a9d {x n:Nat} (h:x < 2 ^ n):bl x≤n:=by
  unfold bl;split
  · omega
  · rename_i h0;exact (Nat.log2_lt h0).2 h
theorem b87 {x k:Nat} (h:2 ^ k≤x):k+bl (x / 2 ^ k)=bl x:=by
  have hk:=Nat.two_pow_pos k
  have h0:x / 2 ^ k≠0:=by
    have:=Nat.div_pos h hk;omega
  have h1:=d90 h0
  have h2:=c91 (x / 2 ^ k)
  have h3:=d4h h0
  obtain ⟨m,hm⟩:∃m,bl (x / 2 ^ k)=m+1:=⟨bl (x / 2 ^ k) - 1,by omega⟩
  rw [hm] at h1 h2 ⊢
  rw [Nat.add_sub_cancel] at h1
  rw [show k+(m+1)=(k+m)+1 by omega]
  refine (bl_eq ?_ ?_).symm
  · rw [Nat.pow_add,Nat.mul_comm]
    exact (Nat.le_div_iff_mul_le hk).1 h1
  · rw [show k+m+1=(m+1)+k by omega,Nat.pow_add]
    exact (Nat.div_lt_iff_lt_mul hk).1 h2
theorem c7q {a:Nat} (h:a < 18446744073709551616):IntKind.u64.wrap (a:Int)=(a:Int):=by rw [IntKind.wrap_u64];omega
theorem d7p {a:Int} (h0:-9223372036854775808≤a) (h:a < 9223372036854775808):IntKind.i64.wrap a=a:=by rw [IntKind.wrap_i64];omega
theorem c6e (a k:Nat) (b:Int) (hb:b.toNat=k) (hk:k≤64):(a:Int).fdiv (2 ^ min b.toNat IntKind.u64.bits)=((a / 2 ^ k:Nat):Int):=by
  rw [hb,show IntKind.u64.bits=64 from rfl,Nat.min_eq_left hk,Int.fdiv_eq_ediv_of_nonneg _ (by exact Int.le_of_lt (Int.pow_pos (by decide)))]
  rw [Int.natCast_ediv,Int.natCast_pow];rfl
theorem d0c (a k:Nat) (hk:k≤64):(a:Int).fdiv (2 ^ min k IntKind.u64.bits)=((a / 2 ^ k:Nat):Int):=c6e a k k rfl hk
theorem d68 (a k:Nat) (b:Int) (hb:b.toNat=k) (hk:k≤64):IntKind.u64.wrap ((a:Int)*2 ^ min b.toNat IntKind.u64.bits)=((a*2 ^ k%18446744073709551616:Nat):Int):=by
  rw [hb,show IntKind.u64.bits=64 from rfl,Nat.min_eq_left hk,IntKind.wrap_u64]
  have:(a:Int)*2 ^ k=((a*2 ^ k:Nat):Int):=by rw [Int.natCast_mul,Int.natCast_pow];rfl
  rw [this];omega
theorem b78 (a b:Nat):(a:Int).tdiv b=((a / b:Nat):Int):=rfl
theorem c2n (a b:Nat):(a:Int).tmod b=((a%b:Nat):Int):=rfl
theorem c8u {a b s:Nat} (ha:a < 2 ^ s) (hb:2 ^ s∣b) (h:a < 18446744073709551616) (hb':b < 18446744073709551616) :
    IntKind.u64.wrap ((BitVec.ofInt IntKind.u64.bits (a:Int) ||| BitVec.ofInt IntKind.u64.bits (b:Int)).toNat:Int)=((a+b:Nat):Int):=by
  have e:(BitVec.ofInt IntKind.u64.bits (a:Int) ||| BitVec.ofInt IntKind.u64.bits (b:Int)).toNat=a ||| b:=by
    rw [BitVec.toNat_or]
    show (BitVec.ofInt 64 (a:Int)).toNat ||| (BitVec.ofInt 64 (b:Int)).toNat=_
    rw [BitVec.toNat_ofInt,BitVec.toNat_ofInt]
    congr 1 <;> omega
  obtain ⟨c,rfl⟩:=hb
  have e2:a ||| 2 ^ s*c=a+2 ^ s*c:=by
    rw [Nat.or_comm,←Nat.two_pow_add_eq_or_of_lt ha,Nat.add_comm]
  have e3:a ||| 2 ^ s*c < 2 ^ 64:=Nat.or_lt_two_pow h hb'
  rw [e,c7q (by omega),e2]
theorem d82 {a b s:Nat} (ha:a < 2 ^ s) (hb:2 ^ s∣b) (h:a < 18446744073709551616) (hb':b < 18446744073709551616) :
    IntKind.u64.wrap ((BitVec.ofInt IntKind.u64.bits (b:Int) ||| BitVec.ofInt IntKind.u64.bits (a:Int)).toNat:Int)=((b+a:Nat):Int):=by
  rw [BitVec.or_comm,c8u ha hb h hb',Nat.add_comm]
structure c7u (s:Nat) (w o:List Nat) (i:Nat):Prop where
  lt:∀d∈o,d < BB
  hi:i≤w.length
  len:o.length=w.length+1
  eq:val BB o=val BB (w.take i)*2 ^ s
  low:o.getD i 0 < 2 ^ s
  zero:∀k,i < k→o.getD k 0=0
theorem d66 {o:List Nat} {i:Nat} (h:o.getD i 0=0) (hi:i < o.length):o.set i 0=o:=by
  apply List.ext_getElem
  · simp
  · intro k h1 h2
    rw [List.getElem_set]
    split
    · rename_i e;subst e
      simpa [List.getD_eq_getElem?_getD,hi] using h.symm
    · rfl
theorem c0c {x s:Nat} (hx:x < BB) (hs:s < 64):x*2 ^ s / BB=x / 2 ^ (64 - s)∧x*2 ^ s / BB < 2 ^ s∧x*2 ^ s%BB+2 ^ s≤BB∧2 ^ s∣x*2 ^ s%BB:=by
  have hB:BB=2 ^ (64 - s)*2 ^ s:=by rw [←Nat.pow_add,show 64 - s+s=64 by omega]
  have hp:=Nat.two_pow_pos s
  have hq:=Nat.two_pow_pos (64 - s)
  rw [hB] at hx ⊢
  generalize 2 ^ (64 - s)=q at *
  generalize 2 ^ s=p at *
  rw [Nat.mul_div_mul_right _ _ hp,Nat.mul_mod_mul_right]
  refine ⟨rfl,Nat.div_lt_of_lt_mul hx,?_,Nat.dvd_mul_left _ _⟩
  have:x%q+1≤q:=Nat.mod_lt _ hq
  calc x%q*p+p=(x%q+1)*p:=by grind
    _≤q*p:=Nat.mul_le_mul_right _ this
theorem c7u.step {s:Nat} {w o:List Nat} {i:Nat} (hs:s < 64) (h:c7u s w o i) (hw:∀d∈w,d < BB) (hi:i < w.length) :
    c7u s w ((o.set i (o.getD i 0+w.getD i 0*2 ^ s%BB)).set (i+1) (w.getD i 0*2 ^ s / BB)) (i+1):=by
  have hx:w.getD i 0 < BB:=r5 (by decide) hw i
  obtain ⟨_,h2,h3,_⟩:=c0c hx hs
  have hl:=h.len
  have hlow:=h.low
  have hB:w.getD i 0*2 ^ s / BB < BB:=Nat.lt_of_lt_of_le h2 (Nat.pow_le_pow_right (by decide) (show s≤64 by omega))
  refine ⟨b69 (b69 h.lt (by omega)) hB,hi,by simp [hl],?_,?_,fun k hk=>?_⟩
  · have e1:=b0o BB o i (o.getD i 0+w.getD i 0*2 ^ s%BB) (by omega)
    have e2:=b0o BB (o.set i (o.getD i 0+w.getD i 0*2 ^ s%BB)) (i+1) (w.getD i 0*2 ^ s / BB) (by rw [List.length_set];omega)
    have e0:(o.set i (o.getD i 0+w.getD i 0*2 ^ s%BB)).getD (i+1) 0=0:=by
      rw [a2g _ _ (by omega),if_neg (by omega)];exact h.zero _ (by omega)
    rw [e0,Nat.mul_zero,Nat.add_zero] at e2
    clear e0
    have e3:=h.eq
    rw [s7,Nat.add_mul,←e3]
    have e4:=Nat.div_add_mod (w.getD i 0*2 ^ s) BB
    rw [Nat.pow_succ] at e2
    generalize val BB ((o.set i (o.getD i 0+w.getD i 0*2 ^ s%BB)).set (i+1) (w.getD i 0*2 ^ s / BB))=v2 at *
    generalize val BB (o.set i (o.getD i 0+w.getD i 0*2 ^ s%BB))=v1 at *
    generalize val BB o=v0 at *
    rw [Nat.mul_assoc (BB ^ i),←e4]
    generalize w.getD i 0*2 ^ s / BB=q at *
    generalize w.getD i 0*2 ^ s%BB=r at *
    generalize o.getD i 0=c at *
    generalize BB ^ i=p at *
    clear e4 h3 hlow
    grind
  · rw [a2g _ _ (by rw [List.length_set];omega),if_pos rfl];exact h2
  · rw [a2g _ _ (by rw [List.length_set];omega),if_neg (by omega),a2g _ _ (by omega),if_neg (by omega)]
    exact h.zero k (by omega)
theorem c7u.nil (s:Nat) (w:List Nat):c7u s w (List.replicate (w.length+1) 0) 0:=
  ⟨fun d hd=>by rw [(List.mem_replicate.1 hd).2];decide,Nat.zero_le _,by simp,by rw [a31];simp [val],by
    simp only [List.getD_eq_getElem?_getD,List.getElem?_replicate];split <;> exact Nat.two_pow_pos s,fun k _=>by
    simp only [List.getD_eq_getElem?_getD,List.getElem?_replicate];split <;> rfl⟩
def a2p (B:Nat):Nat→Nat→List Nat
  | 0,_=> []
  | n+1,v=>v%B :: a2p B n (v / B)
theorem a1a (B:Nat):∀n v,(a2p B n v).length=n
  | 0,_=>rfl
  | n+1,v=>by simp [a2p,a1a B n]
theorem a7q {B:Nat} (hB:0 < B):∀n v,∀d∈a2p B n v,d < B
  | 0,_,d,h=>by cases h
  | n + 1, v, d, h => by
    rcases List.mem_cons.1 h with h|h
    · rw [h];exact Nat.mod_lt _ hB
    · exact a7q hB n _ d h
theorem a9f {B:Nat}:∀n v,val B (a2p B n v)=v%B ^ n
  | 0,v=>by simp [a2p,val,Nat.mod_one]
  | n + 1, v => by
    simp only [a2p,val]
    rw [a9f n,Nat.pow_succ,Nat.mul_comm (B ^ n) B,Nat.mod_mul]
theorem d0d {B:Nat} (hB:0 < B):∀{o:List Nat} {v:Nat},(∀d∈o,d < B)→val B o=v→a2p B o.length v=o
  | [],v,_,_=>rfl
  | d :: o, v, h, hv => by
    subst hv
    have hd:d < B:=h d (by simp)
    simp only [List.length_cons,a2p,val,List.cons.injEq]
    refine ⟨by rw [Nat.add_mul_mod_self_left,Nat.mod_eq_of_lt hd],?_⟩
    rw [Nat.add_mul_div_left _ _ hB,Nat.div_eq_of_lt hd,Nat.zero_add]
    exact d0d hB (fun e he=>h e (by simp [he])) rfl
theorem a99 {B n v:Nat} (hB:0 < B) {o:List Nat} (h:∀d∈o,d < B) (hl:o.length=n) (hv:val B o=v):a2p B n v=o:=by
  subst hl;exact d0d hB h hv
structure KD (R y1 y0 T u q r:Nat):Prop where
  eqT:T=q*y1+r
  up:T*R+u < (q+1)*(y1*R+y0)
  hq:q≤R+1
  hr:r < R
section
variable {R y1 y0 T u q r:Nat}
theorem KD.start (hR:R≤2*y1) (hy1:y1 < R) (hy0:y0 < R) (hu:u < R) (hT:T < y1*R+y0):KD R y1 y0 T u (T / y1) (T%y1):=by
  have hp:0 < y1:=by omega
  have hr:=Nat.mod_lt T hp
  have e:T=T / y1*y1+T%y1:=by have:=Nat.div_add_mod T y1;rw [Nat.mul_comm] at this;omega
  refine ⟨e,?_,?_,by omega⟩
  · have h1:T+1≤(T / y1+1)*y1:=by rw [Nat.add_mul];omega
    have h2:(T+1)*R≤(T / y1+1)*y1*R:=Nat.mul_le_mul_right _ h1
    rw [Nat.add_mul,Nat.one_mul] at h2
    rw [Nat.mul_add,←Nat.mul_assoc]
    omega
  · have:T / y1 < R+2:=by
      rw [Nat.div_lt_iff_lt_mul hp,Nat.add_mul,Nat.mul_comm R]
      omega
    omega
theorem KD.more (h:KD R y1 y0 T u q r) (hT:T < y1*R+y0) (hu:u < R) (hc:R≤q∨R*r+u < q*y0):1≤q∧T=(q - 1)*y1+(r+y1)∧T*R+u < q*(y1*R+y0):=by
  have h1:=h.eqT
  have h2:=h.hr
  have hq:1≤q:=by
    rcases Nat.eq_zero_or_pos q with e|e
    · subst e
      rcases hc with hc|hc
      · omega
      · simp at hc
    · exact e
  obtain ⟨p,rfl⟩:∃p,q=p+1:=⟨q - 1,by omega⟩
  refine ⟨hq,?_,?_⟩
  · rw [Nat.add_sub_cancel];rw [Nat.add_mul] at h1;omega
  · rcases hc with hc|hc
    · have h3:(T+1)*R≤(y1*R+y0)*R:=Nat.mul_le_mul_right _ hT
      have h4:R*(y1*R+y0)≤(p+1)*(y1*R+y0):=Nat.mul_le_mul_right _ hc
      rw [Nat.add_mul] at h3
      rw [Nat.mul_comm (y1*R+y0) R] at h3
      omega
    · rw [h1]
      generalize p+1=q at *
      have:(q*y1+r)*R+u=q*(y1*R)+(R*r+u):=by grind
      rw [this,Nat.mul_add]
      omega
theorem KD.next (h:KD R y1 y0 T u q r) (hT:T < y1*R+y0) (hu:u < R) (hc:R≤q∨R*r+u < q*y0) (hr:r+y1 < R):KD R y1 y0 T u (q - 1) (r+y1):=by
  obtain ⟨h1,h2,h3⟩:=h.more hT hu hc
  exact ⟨h2,by rwa [Nat.sub_add_cancel h1],by have:=h.hq;omega,hr⟩
theorem KD.stop (h:KD R y1 y0 T u q r) (hT:T < y1*R+y0) (hu:u < R) (hy0:y0 < R) (hc:R≤q∨R*r+u < q*y0) (hr:R≤r+y1):q - 1=(T*R+u) / (y1*R+y0)∧q - 1≤R:=by
  obtain ⟨h1,h2,h3⟩:=h.more hT hu hc
  have hq:=h.hq
  obtain ⟨p,rfl⟩:∃p,q=p+1:=⟨q - 1,by omega⟩
  rw [Nat.add_sub_cancel] at h2 ⊢
  refine ⟨?_,by omega⟩
  have h4:p*(y1*R+y0)≤T*R+u:=by
    have h5:p*y0≤R*R:=Nat.mul_le_mul (by omega) (by omega)
    have h6:R*R≤(r+y1)*R:=Nat.mul_le_mul_right _ hr
    have h7:T*R=p*(y1*R)+(r+y1)*R:=by rw [h2];grind
    rw [Nat.mul_add]
    omega
  exact (Nat.div_eq_of_lt_le h4 h3).symm
theorem KD.done (h:KD R y1 y0 T u q r) (hc:q*y0≤R*r+u):q=(T*R+u) / (y1*R+y0):=by
  have h4:q*(y1*R+y0)≤T*R+u:=by
    have h7:T*R=q*(y1*R)+R*r:=by rw [h.eqT];grind
    rw [Nat.mul_add]
    omega
  exact (Nat.div_eq_of_lt_le h4 h.up).symm
end
end Go.Ax
end
section
namespace Go.Ax
theorem c6s {y:Nat} (h0:y≠0) (hy:y < BB):9223372036854775808≤y*2 ^ (64 - bl y)∧y*2 ^ (64 - bl y) < BB∧64 - bl y < 64:=by
  have h1:=d90 h0
  have h2:=c91 y
  have h3:=d4h h0
  have h4:bl y≤64:=a9d (n:=64) hy
  have e1:(9223372036854775808:Nat)=2 ^ (bl y - 1)*2 ^ (64 - bl y):=by rw [←Nat.pow_add,show bl y - 1+(64 - bl y)=63 by omega]
  have e2:BB=2 ^ bl y*2 ^ (64 - bl y):=by rw [←Nat.pow_add,show bl y+(64 - bl y)=64 by omega]
  have hp:=Nat.two_pow_pos (64 - bl y)
  refine ⟨?_,?_,by omega⟩
  · rw [e1];exact Nat.mul_le_mul_right _ h1
  · rw [e2];exact Nat.mul_lt_mul_of_pos_right h2 hp
theorem wsub {A u b r:Nat} (e:A+u=b+r) (hr:r < 18446744073709551616):IntKind.u64.wrap (IntKind.u64.wrap (IntKind.u64.wrap (A:Int)+u) - IntKind.u64.wrap (b:Int))=(r:Int):=by
  rw [IntKind.wrap_u64,IntKind.wrap_u64,IntKind.wrap_u64,IntKind.wrap_u64];omega
theorem wsub1 {a b r:Nat} (e:a=b+r) (hr:r < 18446744073709551616):IntKind.u64.wrap ((a:Int) - IntKind.u64.wrap (b:Int))=(r:Int):=by
  rw [IntKind.wrap_u64,IntKind.wrap_u64];omega
theorem c59 {hi lo y s:Nat} (hs:s < 64) (hlo:lo < BB) (hhi:hi < y) (hy1:9223372036854775808≤y*2 ^ s) (hy2:y*2 ^ s < BB) :
    hi*2 ^ s+lo / 2 ^ (64 - s) < y*2 ^ s∧(hi*2 ^ s+lo / 2 ^ (64 - s))*BB+lo*2 ^ s%BB=(hi*BB+lo)*2 ^ s∧hi*2 ^ s < BB∧lo / 2 ^ (64 - s) < 2 ^ s:=by
  obtain ⟨d1,d2,d3,d4⟩:=c0c hlo hs
  have hp:=Nat.two_pow_pos s
  rw [←d1]
  have h1:(hi+1)*2 ^ s≤y*2 ^ s:=Nat.mul_le_mul_right _ hhi
  rw [Nat.add_mul,Nat.one_mul] at h1
  refine ⟨by omega,?_,by omega,d2⟩
  have e:=Nat.div_add_mod (lo*2 ^ s) BB
  rw [Nat.add_mul,Nat.add_mul,←e]
  generalize lo*2 ^ s / BB=a at *
  generalize lo*2 ^ s%BB=b at *
  generalize 2 ^ s=p at *
  grind
theorem c78 {T R u1 u0 y:Nat} (hy:0 < y):(T*R+u1) / y*R+((T*R+u1)%y*R+u0) / y=(T*R*R+u1*R+u0) / y∧((T*R+u1)%y*R+u0)%y=(T*R*R+u1*R+u0)%y:=by
  have e1:=Nat.div_add_mod (T*R+u1) y
  have e2:=Nat.div_add_mod ((T*R+u1)%y*R+u0) y
  have h2:=Nat.mod_lt ((T*R+u1)%y*R+u0) hy
  generalize (T*R+u1) / y=q1 at *
  generalize (T*R+u1)%y=r1 at *
  generalize (r1*R+u0) / y=q0 at *
  generalize (r1*R+u0)%y=r0 at *
  have e:T*R*R+u1*R+u0=y*(q1*R+q0)+r0:=by
    have:T*R*R+u1*R=(T*R+u1)*R:=by grind
    rw [this,←e1]
    have:(y*q1+r1)*R+u0=y*(q1*R)+(r1*R+u0):=by grind
    rw [this,←e2]
    grind
  have:=(Nat.div_mod_unique hy (a:=T*R*R+u1*R+u0) (c:=r0) (d:=q1*R+q0)).2 ⟨by rw [e];omega,h2⟩
  exact ⟨this.1.symm,this.2.symm⟩
theorem c6n {y1 y0 T u q r:Nat} (h:KD 4294967296 y1 y0 T u q r) (hy0:y0 < 4294967296) (hu:u < 4294967296) (hy1:y1 < 4294967296) :
    IntKind.u64.wrap (IntKind.u64.wrap (4294967296*(r:Int))+u)=((4294967296*r+u:Nat):Int)∧IntKind.u64.wrap ((q:Int)*y0)=((q*y0:Nat):Int)∧IntKind.u64.wrap ((r:Int)+y1)=((r+y1:Nat):Int)∧(1≤q→IntKind.u64.wrap ((q:Int) - 1)=((q - 1:Nat):Int)):=by
  have h1:=h.hr
  have h2:=h.hq
  have h3:q*y0≤4294967297*4294967295:=Nat.mul_le_mul (by omega) (by omega)
  refine ⟨?_,?_,?_,fun h=>?_⟩
  · rw [IntKind.wrap_u64,IntKind.wrap_u64];omega
  · rw [←Int.natCast_mul];exact c7q (by omega)
  · rw [IntKind.wrap_u64];omega
  · rw [IntKind.wrap_u64];omega
theorem b8m {T y1:Nat} (hT:T < 18446744073709551616):IntKind.u64.wrap ((T:Int).tdiv y1)=((T / y1:Nat):Int)∧IntKind.u64.wrap ((T:Int) - IntKind.u64.wrap (IntKind.u64.wrap ((T:Int).tdiv y1)*y1))=((T%y1:Nat):Int):=by
  have e1:IntKind.u64.wrap ((T:Int).tdiv y1)=((T / y1:Nat):Int):=by rw [b78];exact c7q (Nat.lt_of_le_of_lt (Nat.div_le_self _ _) hT)
  refine ⟨e1,?_⟩
  rw [e1,←Int.natCast_mul]
  refine wsub1 ?_ (Nat.lt_of_le_of_lt (Nat.mod_le _ _) hT)
  have:=Nat.div_add_mod T y1
  rw [Nat.mul_comm] at this;omega
theorem d0m {a:Nat} (h:a < BB):a / 4294967296 < 4294967296:=by simp only [BB] at h;omega
theorem d0l (a:Nat):a / 4294967296*4294967296+a%4294967296=a:=by omega
end Go.Ax
end
section
namespace Go.Ax
def rw3 (o:List Nat) (j:Nat) (d:List Nat):List Nat:=o.take j++(d++o.drop (j+d.length))
section
variable {o d:List Nat} {j:Nat}
theorem b8w:rw3 o j []=o:=by simp [rw3]
theorem a0u (h:j+d.length≤o.length):(rw3 o j d).length=o.length:=by simp [rw3];omega
theorem b0i (h:j+d.length≤o.length) (k:Nat):(rw3 o j d).getD k 0=if j≤k∧k < j+d.length then d.getD (k - j) 0 else o.getD k 0:=by
  simp only [rw3,List.getD_eq_getElem?_getD]
  rcases Nat.lt_or_ge k j with h1|h1
  · rw [List.getElem?_append_left (by simp;omega),List.getElem?_take,if_pos h1,if_neg (by omega)]
  · rw [List.getElem?_append_right (by simp;omega),List.length_take,Nat.min_eq_left (by omega)]
    rcases Nat.lt_or_ge (k - j) d.length with h2|h2
    · rw [List.getElem?_append_left h2,if_pos ⟨h1,by omega⟩]
    · rw [List.getElem?_append_right h2,if_neg (by omega),List.getElem?_drop]
      congr 2;omega
theorem b66 (h:j+d.length≤o.length) {k:Nat} (hk:j+d.length≤k):(rw3 o j d).getD k 0=o.getD k 0:=by
  rw [b0i h,if_neg (by omega)]
theorem c4m (h:j+d.length≤o.length) {i:Nat} (hi:i < d.length):(rw3 o j d).getD (j+i) 0=d.getD i 0:=by
  rw [b0i h,if_pos (by omega)];congr 1;omega
theorem a58 {x y:List Nat} (hl:x.length=y.length) (h:∀k,k < x.length→x.getD k 0=y.getD k 0):x=y:=by
  apply List.ext_getElem hl
  intro k h1 h2
  have:=h k h1
  simpa [List.getD_eq_getElem?_getD,h1,h2] using this
theorem a4s (h:j+d.length < o.length) (x:Nat):(rw3 o j d).set (j+d.length) x=rw3 o j (d++ [x]):=by
  apply a58
  · rw [List.length_set,a0u (by omega),a0u (by simp;omega)]
  · intro k hk
    rw [List.length_set,a0u (by omega)] at hk
    rw [a2g _ _ (by rw [a0u (by omega)];omega),b0i (d:=d++ [x]) (by simp;omega),b0i (d:=d) (by omega)]
    simp only [List.length_append,List.length_singleton]
    by_cases e:k=j+d.length
    · rw [if_pos e,if_pos (by omega),b2b,if_pos (by omega)]
    · rw [if_neg e]
      by_cases e2:j≤k∧k < j+d.length
      · rw [if_pos e2,if_pos (by omega),b2b,if_neg (by omega)]
      · rw [if_neg e2,if_neg (by omega)]
theorem d1c {e:List Nat} (h:j+d.length≤o.length) (he:e.length=d.length):rw3 (rw3 o j d) j e=rw3 o j e:=by
  apply a58
  · rw [a0u (by rw [a0u h];omega),a0u h,a0u (by omega)]
  · intro k _
    rw [b0i (by rw [a0u h];omega),b0i h,b0i (d:=e) (by omega),he]
    split
    · rfl
    · rfl
theorem e1u {B:Nat} (ho:∀x∈o,x < B) (hd:∀x∈d,x < B):∀x∈rw3 o j d,x < B:=by
  intro x hx
  simp only [rw3,List.mem_append] at hx
  rcases hx with hx|hx|hx
  · exact ho x (List.mem_of_mem_take hx)
  · exact hd x hx
  · exact ho x (List.mem_of_mem_drop hx)
end
theorem a7g {B:Nat} {l:List Nat} {n:Nat} (hl:l.length=n+1):val B l=l.getD n 0*B ^ n+val B (l.take n):=by
  have h1:=s7 B l n
  rw [List.take_of_length_le (by omega)] at h1
  rw [h1,Nat.mul_comm];omega
theorem c7o {B:Nat} {l:List Nat} {n:Nat} (hl:l.length=n+2):val B l=(l.getD (n+1) 0*B+l.getD n 0)*B ^ n+val B (l.take n):=by
  rw [a7g (n:=n+1) hl,s7,Nat.pow_succ]
  grind
theorem c7p {B:Nat} {l:List Nat} {n:Nat} (hl:l.length=n+3):val B l=((l.getD (n+2) 0*B+l.getD (n+1) 0)*B+l.getD n 0)*B ^ n+val B (l.take n):=by
  rw [a7g (n:=n+2) hl,s7,s7,Nat.pow_succ,Nat.pow_succ]
  grind
structure KQ (B v1 T U V q r over:Nat):Prop where
  eqT:T=q*v1+(r+B*over)
  up:U < (q+1)*V
  hq:q < B
  hr:r < B
  hov:over≤1
structure KG (B U V q:Nat):Prop where
  up:U < (q+1)*V
  low:q*V≤U+V
  hq:q < B
section
variable {B p v1 v2 Vl u1 u2 u3 Ul T U V q r over:Nat}
theorem KQ.start1 (hT:T=u1*B+u2) (hU:U=(T*B+u3)*p+Ul) (hV:V=(v1*B+v2)*p+Vl) (hUV:U < B*V) (hVl:Vl < p) (hv1:v1 < B) (hv2:v2 < B) (hu2:u2 < B) (h:v1≤u1) :
    KQ B v1 T U V (B - 1) ((u2+v1)%B) ((u2+v1) / B):=by
  have hB:0 < B:=by omega
  have hp:0 < p:=by omega
  have hle:u1=v1:=by
    rcases Nat.lt_or_ge v1 u1 with h1|h1
    · exfalso
      have h2:(v1+1)*B*B*p≤u1*B*B*p:=Nat.mul_le_mul_right _ (Nat.mul_le_mul_right _ (Nat.mul_le_mul_right _ h1))
      have h3:u1*B*B*p≤U:=by rw [hU,hT];grind
      have h4:(v2+1)*p≤B*p:=Nat.mul_le_mul_right _ hv2
      have h5:V < v1*B*p+B*p:=by rw [hV];grind
      have h6:B*V < B*(v1*B*p+B*p):=Nat.mul_lt_mul_of_pos_left h5 hB
      have h7:B*(v1*B*p+B*p)=(v1+1)*B*B*p:=by grind
      omega
    · omega
  have e:=Nat.div_add_mod (u2+v1) B
  refine ⟨?_,by rw [Nat.sub_add_cancel hB];exact hUV,by omega,Nat.mod_lt _ hB,?_⟩
  · rw [hT,hle]
    have:v1*B=(B - 1)*v1+v1:=by
      obtain ⟨b,rfl⟩:∃b,B=b+1:=⟨B - 1,by omega⟩
      rw [Nat.add_sub_cancel];grind
    omega
  · have:=Nat.div_lt_of_lt_mul (show u2+v1 < B*2 by omega)
    omega
theorem KQ.start2 (hT:T=u1*B+u2) (hU:U=(T*B+u3)*p+Ul) (hV:V=(v1*B+v2)*p+Vl) (hUl:Ul < p) (hu3:u3 < B) (hv1:v1 < B) (hu2:u2 < B) (h:u1 < v1) :
    KQ B v1 T U V (T / v1) (T%v1) 0:=by
  have hp:0 < v1:=by omega
  have hr:=Nat.mod_lt T hp
  have e:=Nat.div_add_mod T v1
  rw [Nat.mul_comm] at e
  refine ⟨by omega,d8r hV hU hUl hu3 ?_,?_,by omega,by omega⟩
  · rw [Nat.add_mul];omega
  · rw [Nat.div_lt_iff_lt_mul hp,hT]
    have:(u1+1)*B≤v1*B:=Nat.mul_le_mul_right _ h
    rw [Nat.add_mul] at this
    rw [Nat.mul_comm B];omega
theorem KQ.carry (h:KQ B v1 T U V q r 1) (hU:U=(T*B+u3)*p+Ul) (hV:V=(v1*B+v2)*p+Vl) (hVl:Vl < p) (hv2:v2 < B) (hv1:0 < v1):KG B U V q:=by
  refine ⟨h.up,b8l (r:=r+B*1) (v2:=v2) (u3:=u3) (Ul:=Ul) hV hU hVl h.eqT h.hq hv1 ?_,h.hq⟩
  have h1:q*v2≤B*B:=Nat.mul_le_mul (Nat.le_of_lt h.hq) (Nat.le_of_lt hv2)
  rw [Nat.mul_one,Nat.add_mul];omega
theorem KQ.break (h:KQ B v1 T U V q r 0) (hU:U=(T*B+u3)*p+Ul) (hV:V=(v1*B+v2)*p+Vl) (hVl:Vl < p) (hv1:0 < v1) (hc:q*v2≤r*B+u3):KG B U V q:=by
  refine ⟨h.up,b8l (r:=r) hV hU hVl (by have:=h.eqT;omega) h.hq hv1 hc,h.hq⟩
theorem KQ.next (h:KQ B v1 T U V q r 0) (hU:U=(T*B+u3)*p+Ul) (hV:V=(v1*B+v2)*p+Vl) (hUl:Ul < p) (hv1:v1 < B) (hc:r*B+u3 < q*v2):1≤q∧KQ B v1 T U V (q - 1) ((r+v1)%B) ((r+v1) / B):=by
  have hr:=h.hr
  have hq:1≤q:=by
    rcases Nat.eq_zero_or_pos q with e|e
    · subst e;simp at hc
    · exact e
  have hT:T=q*v1+r:=by have:=h.eqT;omega
  have hd:=d55 hV hU hUl hT hc
  obtain ⟨k,rfl⟩:∃k,q=k+1:=⟨q - 1,by omega⟩
  have e:=Nat.div_add_mod (r+v1) B
  refine ⟨hq,?_,by rw [Nat.sub_add_cancel hq];exact hd,by have:=h.hq;omega,Nat.mod_lt _ (by omega),?_⟩
  · rw [Nat.add_sub_cancel,hT,Nat.add_mul];omega
  · have:=Nat.div_lt_of_lt_mul (show r+v1 < B*2 by omega)
    omega
end
theorem b42 {B x hi lo r u3:Nat} (hx:x=hi*B+lo) (hlo:lo < B) (hu:u3 < B):(hi < r∨hi=r∧lo≤u3)↔x≤r*B+u3:=by
  subst hx
  constructor
  · rintro (h|⟨rfl,h⟩)
    · have:(hi+1)*B≤r*B:=Nat.mul_le_mul_right _ h
      rw [Nat.add_mul] at this;omega
    · omega
  · intro h
    rcases Nat.lt_trichotomy hi r with h1|h1|h1
    · exact .inl h1
    · subst h1;exact .inr ⟨rfl,by omega⟩
    · exfalso
      have:(r+1)*B≤hi*B:=Nat.mul_le_mul_right _ h1
      rw [Nat.add_mul] at this;omega
theorem d6c {B x y c:Nat} (hx:x < B) (hy:y < B) (hc:c < B):x*y / B+(x*y%B+c) / B < B∧x*y+c=(x*y%B+c)%B+B*(x*y / B+(x*y%B+c) / B):=by
  have hB:0 < B:=by omega
  have:=d0t (B:=B) (x:=x) (y:=y) (a:=c) (c:=0) (hi:=x*y / B) (lo:=x*y%B) (c1:=(x*y%B+c) / B) (l1:=(x*y%B+c)%B) (c2:=0) (l2:=(x*y%B+c)%B)
    hx hy hc hB (Nat.div_add_mod _ _).symm (Nat.div_add_mod _ _).symm (by rw [Nat.mul_zero,Nat.zero_add,Nat.add_zero]) (Nat.mod_lt _ hB)
  simp only [Nat.add_zero] at this
  exact ⟨this.1,this.2.symm⟩
theorem c2l {B u l b:Nat} (hu:u < B) (hl:l < B) (hb:b≤1):(u+B - l - b)%B+l+b=u+B*(if u < l+b then 1 else 0):=by
  split
  · rw [Nat.mod_eq_of_lt (by omega)];omega
  · rw [Nat.mod_eq_sub_mod (by omega),Nat.mod_eq_of_lt (by omega)];omega
theorem d3h {B n V W q c dt N:Nat} {d e v:List Nat} (hB:2≤B) (hd:∀x∈d,x < B) (he:∀x∈e,x < B) (hdl:d.length=n+1) (hel:e.length=n) (hN:val B d=N) (hW:W < B ^ (n+1)) (hV:V < B ^ n) (hVp:0 < V) (hdt:d.getD n 0=dt)
    (eN:N+q*V=W+B ^ (n+1)*1) (hq2:q*V≤W+V) (eA:val B e+B ^ n*c=val B (d.take n)+V):q - 1=W / V∧val B (e++ [(dt+c)%B])=W%V∧1≤q:=by
  have h1:=a7g (B:=B) hdl
  rw [hdt,hN] at h1
  have hNl:N < B ^ (n+1):=by rw [←hN,←hdl];exact a03 B d hd
  have hMl:val B (e++ [(dt+c)%B]) < B ^ (n+1):=by
    have:=a03 B (e++ [(dt+c)%B]) (a2d he (Nat.mod_lt _ (by omega)))
    rwa [List.length_append,List.length_singleton,hel] at this
  refine d8q (N:=N) (b:=1) hq2 hNl hMl (by omega) hVp hB eN rfl ⟨(dt+c) / B,?_⟩
  have h2:=Nat.div_add_mod (dt+c) B
  rw [a12,hel,Nat.pow_succ]
  generalize val B e=ve at *
  generalize val B (d.take n)=vd at *
  generalize B ^ n=p at *
  generalize (dt+c) / B=k at *
  generalize (dt+c)%B=r at *
  have h3:p*(B*k+r)=p*(dt+c):=by rw [h2]
  grind
end Go.Ax
end
section
namespace Go.Ax
theorem b9o {B:Nat}:∀(n v k:Nat),(a2p B n v).getD k 0=if k < n then v / B ^ k%B else 0
  | 0,v,k=>by simp [a2p]
  | n+1,v,0=>by simp [a2p]
  | n + 1, v, k + 1 => by
    have:(a2p B (n+1) v).getD (k+1) 0=(a2p B n (v / B)).getD k 0:=by simp [a2p,List.getD_eq_getElem?_getD]
    rw [this,b9o n (v / B) k,Nat.div_div_eq_div_mul,Nat.pow_succ,Nat.mul_comm B]
    simp only [Nat.add_lt_add_iff_right]
theorem a9r (B:Nat) (l:List Nat) (k:Nat) (h:k≤l.length):val B l=val B (l.take k)+B ^ k*val B (l.drop k):=by
  conv=>lhs;rw [←List.take_append_drop k l]
  rw [a2c,List.length_take,Nat.min_eq_left h]
structure D1 (B:Nat) (a:List Nat) (b:Nat) (o:List Nat) (k rest:Nat):Prop where
  lt:∀d∈o,d < B
  len:o.length=a.length
  hk:k≤a.length
  hr:rest < b
  eq:val B o*b+rest*B ^ k+val B (a.take k)=val B a
  zero:∀i,i < k→o.getD i 0=0
theorem D1.start {B:Nat} (hB:0 < B) (a:List Nat) {b:Nat} (hb:0 < b):D1 B a b (List.replicate a.length 0) a.length 0:=
  ⟨fun d hd=>by rw [(List.mem_replicate.1 hd).2];exact hB,by simp,Nat.le_refl _,hb,by rw [a31,List.take_length];simp,fun k _=>by
    simp only [List.getD_eq_getElem?_getD,List.getElem?_replicate];split <;> rfl⟩
theorem D1.step {B:Nat} {a:List Nat} {b:Nat} {o:List Nat} {k rest:Nat} (h:D1 B a b o (k+1) rest) (ha:∀d∈a,d < B) :
    (rest*B+a.getD k 0) / b < B∧D1 B a b (o.set k ((rest*B+a.getD k 0) / b)) k ((rest*B+a.getD k 0)%b):=by
  have hr:=h.hr
  have hb:0 < b:=by omega
  have hk:=h.hk
  have hlen:=h.len
  have hB:0 < B:=by
    cases ha':a with
    | nil=>rw [ha'] at hk;simp at hk
    | cons x r=>have:=ha x (by rw [ha'];simp);omega
  have hd:=r5 hB ha k
  have hq:(rest*B+a.getD k 0) / b < B:=by
    rw [Nat.div_lt_iff_lt_mul hb]
    have:(rest+1)*B≤b*B:=Nat.mul_le_mul_right _ hr
    rw [Nat.add_mul] at this
    rw [Nat.mul_comm B];omega
  refine ⟨hq,b69 h.lt hq,by rw [List.length_set];exact hlen,by omega,Nat.mod_lt _ hb,?_,fun i hi=>?_⟩
  · have e1:=b0o B o k ((rest*B+a.getD k 0) / b) (by omega)
    rw [h.zero k (by omega),Nat.mul_zero,Nat.add_zero] at e1
    have e2:=h.eq
    rw [s7,Nat.pow_succ] at e2
    have e3:=Nat.div_add_mod (rest*B+a.getD k 0) b
    rw [e1]
    generalize (rest*B+a.getD k 0) / b=q at *
    generalize (rest*B+a.getD k 0)%b=r at *
    generalize a.getD k 0=x at *
    generalize val B o=vo at *
    generalize val B (a.take k)=vt at *
    generalize B ^ k=p at *
    have e4:p*(b*q+r)=p*(rest*B+x):=by rw [e3]
    grind
  · rw [a2g _ _ (by omega),if_neg (by omega)];exact h.zero i (by omega)
theorem D1.done {B:Nat} {a:List Nat} {b:Nat} {o:List Nat} {rest:Nat} (h:D1 B a b o 0 rest):val B o=val B a / b∧rest=val B a%b:=by
  have e:=h.eq
  simp only [Nat.pow_zero,Nat.mul_one,List.take_zero,val,Nat.add_zero] at e
  have hr:=h.hr
  have:=(Nat.div_mod_unique (show 0 < b by omega) (a:=val B a) (c:=rest) (d:=val B o)).2 ⟨by rw [Nat.mul_comm];omega,hr⟩
  exact ⟨this.1.symm,this.2.symm⟩
structure b0u (B A V:Nat) (n:Nat) (u q:List Nat) (k:Nat):Prop where
  ltu:∀d∈u,d < B
  ltq:∀d∈q,d < B
  len:n+k≤u.length
  lq:k≤q.length
  eq:val B u+V*val B q=A
  low:val B u < V*B ^ k
  zero:∀i,i < k→q.getD i 0=0
theorem d7o {B:Nat} {u:List Nat} {j n V:Nat} (hlt:∀d∈u,d < B) (hlen:j+(n+1)≤u.length) (hV:V < B ^ n) (hlow:val B u < V*B ^ (j+1)) :
    val B u=val B (u.take j)+B ^ j*val B ((u.drop j).take (n+1))∧val B ((u.drop j).take (n+1)) < B*V∧val B (u.drop (j+(n+1)))=0:=by
  have e1:=a9r B u j (by omega)
  have e2:=a9r B (u.drop j) (n+1) (by simp;omega)
  rw [List.drop_drop] at e2
  have h0:val B (u.drop (j+(n+1)))=0:=by
    rcases Nat.eq_zero_or_pos (val B (u.drop (j+(n+1)))) with h|h
    · exact h
    · exfalso
      have h1:B ^ j*(B ^ (n+1)*1)≤B ^ j*(B ^ (n+1)*val B (u.drop (j+(n+1)))):=Nat.mul_le_mul_left _ (Nat.mul_le_mul_left _ h)
      have h2:V*B ^ (j+1)≤B ^ n*B ^ (j+1):=Nat.mul_le_mul_right _ (Nat.le_of_lt hV)
      have h3:B ^ j*(B ^ (n+1)*1)=B ^ n*B ^ (j+1):=by rw [Nat.pow_succ,Nat.pow_succ];grind
      have h4:B ^ j*val B (u.drop j)=B ^ j*val B ((u.drop j).take (n+1))+B ^ j*(B ^ (n+1)*val B (u.drop (j+(n+1)))):=by rw [e2,Nat.mul_add]
      omega
  rw [h0,Nat.mul_zero,Nat.add_zero] at e2
  refine ⟨by rw [e1,e2],?_,h0⟩
  rw [e2] at e1
  have hp:0 < B ^ j:=by
    rcases Nat.eq_zero_or_pos (B ^ j) with h|h
    · rw [Nat.pow_succ,h] at hlow;simp at hlow
    · exact h
  have h5:B ^ j*val B ((u.drop j).take (n+1)) < B ^ j*(B*V):=by
    have:V*B ^ (j+1)=B ^ j*(B*V):=by rw [Nat.pow_succ];grind
    omega
  exact Nat.lt_of_mul_lt_mul_left h5
theorem d9u {B:Nat} {o d:List Nat} {j:Nat} (h:j+d.length≤o.length):val B (rw3 o j d)=val B (o.take j)+B ^ j*(val B d+B ^ d.length*val B (o.drop (j+d.length))):=by
  rw [rw3,a2c,a2c,List.length_take,Nat.min_eq_left (by omega)]
theorem b0u.step {B A V n j:Nat} {u q:List Nat} (hB:0 < B) (hVp:0 < V) (hV:V < B ^ n) (h:b0u B A V n u q (j+1)) :
    val B ((u.drop j).take (n+1)) < B*V∧val B ((u.drop j).take (n+1)) / V < B∧
    b0u B A V n (rw3 u j (a2p B (n+1) (val B ((u.drop j).take (n+1))%V))) (q.set j (val B ((u.drop j).take (n+1)) / V)) j:=by
  have hlen:=h.len
  have hlq:=h.lq
  obtain ⟨e1,e2,e3⟩:=d7o (n:=n) h.ltu (by omega) hV h.low
  have hq:val B ((u.drop j).take (n+1)) / V < B:=by rw [Nat.div_lt_iff_lt_mul hVp];exact e2
  generalize val B ((u.drop j).take (n+1))=W at *
  have hr:=Nat.mod_lt W hVp
  have hfl:=a1a B (n+1) (W%V)
  have hfv:val B (a2p B (n+1) (W%V))=W%V:=by
    rw [a9f,Nat.mod_eq_of_lt]
    have:B ^ n*1≤B ^ n*B:=Nat.mul_le_mul_left _ hB
    rw [Nat.pow_succ];omega
  have hv:=d9u (B:=B) (o:=u) (j:=j) (d:=a2p B (n+1) (W%V)) (by rw [hfl];omega)
  rw [hfl,e3,hfv] at hv
  simp only [Nat.mul_zero,Nat.add_zero] at hv
  have htake:=a03 B (u.take j) fun d hd=>h.ltu d (List.mem_of_mem_take hd)
  rw [List.length_take,Nat.min_eq_left (by omega)] at htake
  refine ⟨e2,hq,e1u h.ltu (a7q hB _ _),b69 h.ltq hq,by rw [a0u (by rw [hfl];omega)];omega,by rw [List.length_set];omega,?_,?_,fun i hi=>?_⟩
  · have e4:=b0o B q j (W / V) (by omega)
    rw [h.zero j (by omega),Nat.mul_zero,Nat.add_zero] at e4
    have e5:=h.eq
    have e6:=Nat.div_add_mod W V
    rw [hv,e4]
    rw [e1] at e5
    generalize val B (u.take j)=t at *
    generalize val B q=vq at *
    generalize W / V=x at *
    generalize W%V=r at *
    generalize B ^ j=p at *
    have:p*(V*x+r)=p*W:=by rw [e6]
    grind
  · rw [hv]
    have h':W%V+1≤V:=hr
    have:=Nat.mul_le_mul_left (B ^ j) h'
    rw [Nat.mul_add,Nat.mul_one] at this
    rw [Nat.mul_comm V];omega
  · rw [a2g _ _ (by omega),if_neg (by omega)];exact h.zero i (by omega)
theorem b0u.done {B A V n:Nat} {u q:List Nat} (h:b0u B A V n u q 0):val B q=A / V∧val B u=A%V:=by
  have e:=h.eq
  have hl:=h.low
  rw [Nat.pow_zero,Nat.mul_one] at hl
  have:=(Nat.div_mod_unique (show 0 < V by omega) (a:=A) (c:=val B u) (d:=val B q)).2 ⟨e,hl⟩
  exact ⟨this.1.symm,this.2.symm⟩
theorem e1y {b:List Nat} {n:Nat} (hn:b.length=n+1) (hb:Dig BB b):64 - bl (b.getD n 0) < 64∧val BB b*2 ^ (64 - bl (b.getD n 0)) < BB ^ (n+1)∧9223372036854775808*BB ^ n≤val BB b*2 ^ (64 - bl (b.getD n 0)):=by
  have ht:b.getD n 0≠0:=by
    have:=hb.last
    intro h
    apply this
    rw [List.getLast?_eq_getElem?,hn,Nat.add_sub_cancel]
    rw [List.getD_eq_getElem?_getD] at h
    cases e:b[n]? with
    | none=>rw [List.getElem?_eq_none_iff] at e;omega
    | some x=>rw [e] at h;simp at h;rw [h]
  have hlt:=r5 (by decide) hb.lt n
  obtain ⟨n1,n2,n3⟩:=c6s ht hlt
  have htop:=a7g (B:=BB) hn
  have hlow:=a03 BB (b.take n) fun d hd=>hb.lt d (List.mem_of_mem_take hd)
  rw [List.length_take,Nat.min_eq_left (by omega)] at hlow
  refine ⟨n3,?_,?_⟩
  · have h1:(b.getD n 0+1)*2 ^ (64 - bl (b.getD n 0))≤BB:=by
      have e2:BB=2 ^ bl (b.getD n 0)*2 ^ (64 - bl (b.getD n 0)):=by
        rw [←Nat.pow_add,show bl (b.getD n 0)+(64 - bl (b.getD n 0))=64 by have:=a9d (n:=64) hlt;omega]
      conv=>rhs;rw [e2]
      exact Nat.mul_le_mul_right _ (c91 _)
    have h2:val BB b+1≤(b.getD n 0+1)*BB ^ n:=by rw [Nat.add_mul,htop];omega
    have h3:=Nat.mul_le_mul_right (2 ^ (64 - bl (b.getD n 0))) h2
    have h4:=Nat.mul_le_mul_right (BB ^ n) h1
    have hp:=Nat.two_pow_pos (64 - bl (b.getD n 0))
    have h5:(b.getD n 0+1)*BB ^ n*2 ^ (64 - bl (b.getD n 0))=(b.getD n 0+1)*2 ^ (64 - bl (b.getD n 0))*BB ^ n:=by
      rw [Nat.mul_assoc,Nat.mul_comm (BB ^ n),←Nat.mul_assoc]
    rw [h5] at h3
    rw [Nat.add_mul,Nat.one_mul] at h3
    rw [Nat.pow_succ,Nat.mul_comm (BB ^ n)]
    omega
  · have h1:=Nat.mul_le_mul_right (BB ^ n) n1
    have h2:b.getD n 0*BB ^ n≤val BB b:=by omega
    have h3:=Nat.mul_le_mul_right (2 ^ (64 - bl (b.getD n 0))) h2
    have h5:b.getD n 0*BB ^ n*2 ^ (64 - bl (b.getD n 0))=b.getD n 0*2 ^ (64 - bl (b.getD n 0))*BB ^ n:=by
      rw [Nat.mul_assoc,Nat.mul_comm (BB ^ n),←Nat.mul_assoc]
    rw [h5] at h3
    omega
theorem d9t {X s:Nat} (hs:s < 64):X%BB / 2 ^ s < 2 ^ (64 - s)∧2 ^ (64 - s)∣X / BB%BB*2 ^ (64 - s)%BB∧X%BB / 2 ^ s+X / BB%BB*2 ^ (64 - s)%BB=X / 2 ^ s%BB:=by
  have hB:BB=2 ^ s*2 ^ (64 - s):=by rw [←Nat.pow_add,show s+(64 - s)=64 by omega]
  have hp:=Nat.two_pow_pos s
  have hq:=Nat.two_pow_pos (64 - s)
  have h1:X%BB / 2 ^ s < 2 ^ (64 - s):=by
    rw [Nat.div_lt_iff_lt_mul hp,Nat.mul_comm,←hB];exact Nat.mod_lt _ (by decide)
  have h2:2 ^ (64 - s)∣X / BB%BB*2 ^ (64 - s)%BB:=by
    conv=>rhs;rhs;rw [hB]
    rw [Nat.mul_mod_mul_right]
    exact Nat.dvd_mul_left _ _
  refine ⟨h1,h2,?_⟩
  have e1:X / 2 ^ s=X / BB*2 ^ (64 - s)+X%BB / 2 ^ s:=by
    have:=Nat.div_add_mod X BB
    conv=>lhs;rw [←this]
    have h3:BB*(X / BB)=2 ^ s*(X / BB*2 ^ (64 - s)):=by
      conv=>lhs;lhs;rw [hB]
      rw [Nat.mul_assoc,Nat.mul_comm (2 ^ (64 - s))]
    rw [h3,Nat.mul_add_div hp]
  have e2:X / BB*2 ^ (64 - s)%BB=X / BB%BB*2 ^ (64 - s)%BB:=by
    exact (Nat.mod_mul_mod _ _ _).symm
  have h4:X / BB%BB*2 ^ (64 - s)%BB+2 ^ (64 - s)≤BB:=by
    obtain ⟨c,hc⟩:=h2
    have h5:X / BB%BB*2 ^ (64 - s)%BB < BB:=Nat.mod_lt _ (by decide)
    rw [hc] at h5 ⊢
    have:c < 2 ^ s:=by
      rcases Nat.lt_or_ge c (2 ^ s) with h|h
      · exact h
      · have:=Nat.mul_le_mul_left (2 ^ (64 - s)) h
        rw [Nat.mul_comm _ (2 ^ s),←hB] at this;omega
    have h6:2 ^ (64 - s)*(c+1)≤2 ^ (64 - s)*2 ^ s:=Nat.mul_le_mul_left _ this
    rw [Nat.mul_comm _ (2 ^ s),←hB,Nat.mul_add,Nat.mul_one] at h6
    exact h6
  rw [e1,Nat.add_mod,e2,Nat.mod_eq_of_lt (show X%BB / 2 ^ s < BB by
    have:X%BB < BB:=Nat.mod_lt _ (by decide)
    exact Nat.lt_of_le_of_lt (Nat.div_le_self _ _) this),Nat.mod_eq_of_lt (show X / BB%BB*2 ^ (64 - s)%BB+X%BB / 2 ^ s < BB by omega),Nat.add_comm]
theorem d3d (M s i:Nat):M*2 ^ s / BB ^ i / 2 ^ s=M / BB ^ i:=by
  rw [Nat.div_div_eq_div_mul,Nat.mul_div_mul_right _ _ (Nat.two_pow_pos s)]
theorem b0u.start {A V s n la:Nat} (hA:A < BB ^ la) (hs:s < 64) (hV:9223372036854775808*BB ^ (n+1)≤V) (hn:n+2≤la) :
    b0u BB (A*2 ^ s) V (n+2) (a2p BB (la+1) (A*2 ^ s)) (List.replicate (la - (n+2)+1) 0) (la - (n+2)+1):=by
  have h2:2 ^ s≤9223372036854775808:=Nat.pow_le_pow_right (by decide) (show s≤63 by omega)
  have h3:A*2 ^ s < BB ^ la*9223372036854775808:=by
    have h4:A*2 ^ s≤A*9223372036854775808:=Nat.mul_le_mul_left _ h2
    have h5:A*9223372036854775808 < BB ^ la*9223372036854775808:=Nat.mul_lt_mul_of_pos_right hA (by decide)
    omega
  have h6:BB ^ la*9223372036854775808≤V*BB ^ (la - (n+2)+1):=by
    have h7:=Nat.mul_le_mul_right (BB ^ (la - (n+2)+1)) hV
    have h8:9223372036854775808*BB ^ (n+1)*BB ^ (la - (n+2)+1)=BB ^ la*9223372036854775808:=by
      rw [Nat.mul_assoc,←Nat.pow_add,show n+1+(la - (n+2)+1)=la by omega,Nat.mul_comm]
    omega
  have hv:val BB (a2p BB (la+1) (A*2 ^ s))=A*2 ^ s:=by
    rw [a9f,Nat.mod_eq_of_lt]
    rw [Nat.pow_succ]
    have:BB ^ la*9223372036854775808≤BB ^ la*BB:=Nat.mul_le_mul_left _ (by decide)
    exact Nat.lt_of_lt_of_le h3 this
  refine ⟨a7q (by decide) _ _,fun d hd=>by rw [(List.mem_replicate.1 hd).2];decide,by rw [a1a];omega,by simp,by rw [hv,a31];simp,by rw [hv];omega,fun k _=>by
    simp only [List.getD_eq_getElem?_getD,List.getElem?_replicate];split <;> rfl⟩
theorem d5w {n m:Nat} (h1:BB ^ n≤m) (h2:m < BB ^ (n+1)):(f7 BB m).length=n+1:=by
  have h3:=a3d (B:=BB) (by decide) h2
  have h4:=b4w (B:=BB) (n:=m) (by decide)
  rcases Nat.lt_or_ge n (f7 BB m).length with h|h
  · omega
  · have:=Nat.pow_le_pow_right (show 0 < BB by decide) h
    omega
theorem d9s {b:List Nat} {n:Nat} (hn:b.length=n+1) (hb:Dig BB b):0 < b.getD n 0:=by
  have:=hb.last
  rcases Nat.eq_zero_or_pos (b.getD n 0) with h|h
  · exfalso
    apply this
    rw [List.getLast?_eq_getElem?,hn,Nat.add_sub_cancel]
    rw [List.getD_eq_getElem?_getD] at h
    cases e:b[n]? with
    | none=>rw [List.getElem?_eq_none_iff] at e;omega
    | some x=>rw [e] at h;simp at h;rw [h]
  · exact h
def a2n (m M s i:Nat):List Nat:=(a2p BB m M).take i++(a2p BB m (M*2 ^ s)).drop i
theorem b2m {m M s i:Nat} (h:i≤m):(a2n m M s i).length=m:=by simp [a2n,a1a];omega
theorem b7n {m M s i:Nat} (h:i≤m) (k:Nat):(a2n m M s i).getD k 0=if k < i then M / BB ^ k%BB else if k < m then M*2 ^ s / BB ^ k%BB else 0:=by
  have e1:=b9o (B:=BB) m M k
  have e2:=b9o (B:=BB) m (M*2 ^ s) k
  rw [List.getD_eq_getElem?_getD] at e1 e2
  simp only [a2n,List.getD_eq_getElem?_getD]
  rcases Nat.lt_or_ge k i with h1|h1
  · rw [List.getElem?_append_left (by simp [a1a];omega),List.getElem?_take,if_pos h1,if_pos h1,e1,if_pos (by omega)]
  · rw [List.getElem?_append_right (by simp [a1a];omega),List.length_take,a1a,Nat.min_eq_left h,List.getElem?_drop,show i+(k - i)=k by omega,if_neg (by omega),e2]
theorem c2p {m M s i:Nat} (h:i < m):(a2n m M s i).set i (M / BB ^ i%BB)=a2n m M s (i+1):=by
  apply a58
  · rw [List.length_set,b2m (by omega),b2m (by omega)]
  · intro k hk
    rw [a2g _ _ (by rw [b2m (by omega)];omega),b7n (by omega),b7n (by omega)]
    by_cases e:k=i
    · subst e;rw [if_pos rfl,if_pos (by omega)]
    · rw [if_neg e]
      by_cases e2:k < i
      · rw [if_pos e2,if_pos (by omega)]
      · have e3:¬k < i+1:=by omega
        simp only [e2,e3,if_false]
theorem c9r {m M s:Nat}:a2n m M s 0=a2p BB m (M*2 ^ s):=by simp [a2n]
theorem c9q {m M s n:Nat} (h:n≤m) (hM:M < BB ^ n):a04 ((a2n m M s n).take n)=f7 BB M:=by
  have e:(a2n m M s n).take n=(a2p BB m M).take n:=by
    rw [a2n,List.take_append_of_le_length (by simp [a1a];omega),List.take_take,Nat.min_self]
  rw [e,a0r (by decide) (fun d hd=>a7q (by decide) _ _ d (List.mem_of_mem_take hd))]
  congr 1
  have h1:=a9r BB (a2p BB m M) n (by rw [a1a];exact h)
  rw [a9f,Nat.mod_eq_of_lt (Nat.lt_of_lt_of_le hM (Nat.pow_le_pow_right (by decide) h))] at h1
  have h2:=a03 BB ((a2p BB m M).take n) fun d hd=>a7q (by decide) _ _ d (List.mem_of_mem_take hd)
  rw [List.length_take,a1a,Nat.min_eq_left h] at h2
  rcases Nat.eq_zero_or_pos (val BB ((a2p BB m M).drop n)) with h3|h3
  · rw [h3] at h1;omega
  · exfalso
    have:=Nat.mul_le_mul_left (BB ^ n) h3
    omega
end Go.Ax
end
section
namespace Go.Ax
theorem a7r {α:Type} {a b:α}:(if (0:Nat)=0 then a else b)=a:=rfl
theorem a7k {nb b sz:Nat} {g g':Nat→List i7} {ro ro':Bool} {r:List (Nat×Option Box×Box)} (h0:Nat.ble (b+1) nb=true) (hcl:clL nb (g' 0)) (h:u4 (g 0) (g' 0)) (h3:a1g nb r):a1g nb ((b,some ⟨sz,1,g,ro⟩,⟨sz,1,g',ro'⟩) :: r):=
  ⟨⟨h0,.inr ⟨_,rfl,rfl,Nat.le_refl _,(fun _=>.inr Nat.zero_lt_one),fun i hi=>by
    obtain rfl:i=0:=by have:i < 1:=hi;omega
    exact ⟨h,hcl⟩⟩⟩,h3⟩
def zl (z:Int):Nat:=(f7 BB z.natAbs).length
theorem c00 {z:Int} {k:Nat} (h:z.natAbs < BB ^ k):zl z≤k:=a3d (by decide) h
theorem c01 (z:Int):z.natAbs < BB ^ zl z:=b4w (by decide)
theorem a4y (z:Int):zl (-z)=zl z:=by unfold zl;rw [Int.natAbs_neg]
theorem d9v:zl 0=0:=rfl
theorem a4z {z:Int} (h:z.natAbs < BB):zl z≤1:=c00 (by rw [Nat.pow_one];exact h)
theorem a13 {x y:Int} (h:x.natAbs≤y.natAbs):zl x≤zl y:=c00 (Nat.lt_of_le_of_lt h (c01 y))
theorem b7q (x y:Int):zl (x+y)≤max (zl x) (zl y)+1:=by
  refine c00 ?_
  have h1:=Nat.lt_of_lt_of_le (c01 x) (Nat.pow_le_pow_right (show 0 < BB by decide) (Nat.le_max_left (zl x) (zl y)))
  have h2:=Nat.lt_of_lt_of_le (c01 y) (Nat.pow_le_pow_right (show 0 < BB by decide) (Nat.le_max_right (zl x) (zl y)))
  have h3:=Int.natAbs_add_le x y
  have h4:BB ^ max (zl x) (zl y)*2≤BB ^ max (zl x) (zl y)*BB:=Nat.mul_le_mul_left _ (by decide)
  rw [Nat.pow_succ]
  generalize BB ^ max (zl x) (zl y)=p at *
  generalize p*BB=q at *
  omega
theorem a2s (x y:Int):zl (x*y)≤zl x+zl y:=by
  refine c00 ?_
  rw [Int.natAbs_mul,Nat.pow_add]
  exact Nat.mul_lt_mul'' (c01 x) (c01 y)
abbrev smA (z:Int):AV:=.agg [.v (.int .i64 z),.v (.slice none 0 0)]
abbrev bgA (z:Int):AV:=.agg [.v (.int .i64 (if z < 0 then -1 else 1)),.nn .u64 (y7 (f7 BB z.natAbs))]
abbrev n8 (z:Int):AV:=.agg [.int z]
theorem a8f {z:Int} (h1:-9223372036854775808≤z) (h2:z < 9223372036854775808):Sub (smA z) (n8 z):=by
  rintro E w v ⟨cs,hv,xs,ys,rfl,⟨rfl,_⟩,xs',ys',rfl,⟨rfl,_⟩,rfl⟩
  exact ⟨_,hv,_,[],by simp,.inl ⟨rfl,h1,h2⟩,rfl⟩
theorem c2c {E:u6} {w:World} {z:Int} {x:Value} (h:9223372036854775808≤z.natAbs) (hx:NnR E w .u64 (y7 (f7 BB z.natAbs)) x):a6g E w z [.int .i64 (if z < 0 then -1 else 1),x]:=by
  obtain ⟨b,o,c,rfl,h1,h2,h3⟩:=hx
  have hd:=j5 (B:=BB) (by decide) z.natAbs
  refine .inr ⟨f7 BB z.natAbs,b,o,c,by simp,h1,by simpa using h2,by rw [List.map_map] at h3;exact h3,hd.lt,fun e=>?_,hd.last,j8 (by decide) _,h⟩
  rw [a2f (by decide)] at e
  omega
theorem b0l {z:Int} (h:9223372036854775808≤z.natAbs):Sub (bgA z) (n8 z):=by
  rintro E w v ⟨cs,hv,xs,ys,rfl,⟨rfl,_⟩,xs',ys',rfl,⟨x,rfl,hx⟩,rfl⟩
  exact ⟨_,hv,_,[],by simp,c2c h hx,rfl⟩
theorem b8y {z s:Int} (h:9223372036854775808≤z.natAbs) (hs:s=if z < 0 then -1 else 1) {ds:List Int} (hds:ds=y7 (f7 BB z.natAbs)):Sub (.agg [.v (.int .i64 s),.ints .u64 ds]) (n8 z):=by
  subst hs hds
  rintro E w v ⟨cs,hv,xs,ys,rfl,⟨rfl,_⟩,xs',ys',rfl,⟨x,rfl,hx⟩,rfl⟩
  refine ⟨_,hv,_,[],(List.append_nil _).symm,c2c h ?_,rfl⟩
  rcases hx with ⟨hx,_⟩|hx
  · exfalso
    have:f7 BB z.natAbs= []:=by simpa using hx
    rw [a2f (by decide)] at this
    omega
  · exact hx
theorem c2a {E:u6} {w:World} {z:Int} {v:Value} (h:RV E w (n8 z) v):((-9223372036854775808≤z∧z < 9223372036854775808)∧RV E w (smA z) v)∨(9223372036854775808≤z.natAbs∧RV E w (bgA z) v):=by
  obtain ⟨cs,hv,xs,ys,rfl,h1,rfl⟩:=h
  rw [List.append_nil] at hv
  rcases h1 with ⟨rfl,h2,h3⟩|⟨ds,b,o,c,rfl,h2,h3,h4,h5,h6,h7,h8,h9⟩
  · exact .inl ⟨⟨h2,h3⟩,_,hv,_,_,rfl,⟨rfl,rfl⟩,_,_,rfl,⟨rfl,rfl⟩,rfl⟩
  · have e:f7 BB z.natAbs=ds:=b8j (by decide) ⟨h5,h7⟩ h8
    refine .inr ⟨h9,_,hv,[_],[_],rfl,⟨rfl,rfl⟩,[_],[],rfl,⟨_,rfl,b,o,c,?_,h2,?_,?_⟩,rfl⟩
    · rw [e];simp
    · rw [e];simpa using h3
    · rw [e,List.map_map];exact h4
theorem a00 {P:Program} {G:World→Prop} {f:FuncId} (pre post:List AV) {z:Int} {r:AV} (hs:-9223372036854775808≤z→z < 9223372036854775808→Pure P G f (pre++smA z :: post) r)
    (hb:9223372036854775808≤z.natAbs→Pure P G f (pre++bgA z :: post) r):Pure P G f (pre++n8 z :: post) r:=by
  refine c80 (ι:={ b:Bool // (b=true→-9223372036854775808≤z∧z < 9223372036854775808)∧(b=false→9223372036854775808≤z.natAbs) }) (fun b=>match b.1 with|true=>smA z|false=>bgA z) ?_ ⟨trivial,trivial⟩ (fun E w v h=>?_) fun b=>?_
  · by_cases h:-9223372036854775808≤z∧z < 9223372036854775808
    · exact ⟨⟨true,fun _=>h,fun e=>(by cases e)⟩⟩
    · exact ⟨⟨false,(fun e=>(by cases e)),fun _=>by omega⟩⟩
  · rcases c2a h with ⟨h1,h2⟩|⟨h1,h2⟩
    · exact ⟨⟨true,fun _=>h1,fun e=>(by cases e)⟩,h2⟩
    · exact ⟨⟨false,(fun e=>(by cases e)),fun _=>h1⟩,h2⟩
  · obtain ⟨b,h1,h2⟩:=b
    cases b with
    | true=>exact hs (h1 rfl).1 (h1 rfl).2
    | false=>exact hb (h2 rfl)
theorem e1z {k:IntKind} {l:List Int}:Sub (.one (.nn k l)) (.one (.ints k l)):=by
  rintro E w v ⟨_,x,e,h⟩
  exact ⟨rfl,x,e,.inr h⟩
theorem c7d (z:Int):(if -1 < (if z < 1 then z else 1) then (if z < 1 then z else 1) else -1)=z.sign:=by
  rcases Int.lt_trichotomy z 0 with h|h|h
  · have h1:z < 1:=by omega
    simp only [Int.sign_eq_neg_one_of_neg h,h1,if_true]
    split <;> omega
  · subst h;rfl
  · have h1:¬z < 1:=by omega
    simp only [Int.sign_eq_one_of_pos h,h1,if_false];rfl
theorem d69 {z:Int} (h:9223372036854775808≤z.natAbs):(if z < 0 then -1 else 1:Int)=z.sign:=by
  by_cases h0:z < 0
  · rw [if_pos h0,Int.sign_eq_neg_one_of_neg h0]
  · rw [if_neg h0,Int.sign_eq_one_of_pos (by omega)]
theorem d3g (z:Int):z.sign.sign=z.sign:=by
  rcases Int.lt_trichotomy z 0 with h|h|h
  · rw [Int.sign_eq_neg_one_of_neg h];rfl
  · subst h;rfl
  · rw [Int.sign_eq_one_of_pos h];rfl
theorem a52 {m n:Nat} (h:0≤a5v m n):n≤m:=by
  unfold a5v at h
  rcases Nat.lt_or_ge m n with h1|h1
  · rw [if_pos h1] at h;omega
  · exact h1
theorem a54 {m n:Nat} (h:¬0≤a5v m n):m < n:=by
  unfold a5v at h
  rcases Nat.lt_or_ge m n with h1|h1
  · exact h1
  · rw [if_neg (by omega)] at h
    split at h <;> omega
theorem a7p {x y:List Nat} (hx:Dig BB x) (hy:Dig BB y) (h:val BB y≤val BB x):y.length≤x.length:=by
  rcases Nat.lt_or_ge x.length y.length with h1|h1
  · have:=a93 (by decide) hx hy h1;omega
  · exact h1
theorem a64 {x y:Int} (hp:0 < y) (hx:0≤x):x / y=((x.natAbs / y.natAbs:Nat):Int)∧x%y=((x.natAbs%y.natAbs:Nat):Int):=by
  obtain ⟨a,rfl⟩:=Int.eq_ofNat_of_zero_le hx
  obtain ⟨b,rfl⟩:=Int.eq_ofNat_of_zero_le (Int.le_of_lt hp)
  exact ⟨rfl,rfl⟩
theorem a48 {x y:Int} (hp:0 < y) (hx:x < 0):if x.natAbs%y.natAbs=0 then x / y= -((x.natAbs / y.natAbs:Nat):Int)∧x%y=0 else x / y= -((x.natAbs / y.natAbs:Nat):Int) - 1∧x%y= -((x.natAbs%y.natAbs:Nat):Int)+y:=by
  obtain ⟨a,ha⟩:∃a:Nat,x= -(a:Int):=⟨x.natAbs,by omega⟩
  obtain ⟨b,rfl⟩:=Int.eq_ofNat_of_zero_le (Int.le_of_lt hp)
  subst ha
  simp only [Int.natAbs_neg,Int.natAbs_natCast]
  have h1:=Nat.div_add_mod a b
  have h2:=Nat.mod_lt a (show 0 < b by omega)
  have h3:(a:Int)=b*((a / b:Nat):Int)+((a%b:Nat):Int):=by rw [←Int.natCast_mul,←Int.natCast_add,h1]
  generalize a / b=q at *
  generalize a%b=r at *
  split
  · rename_i h0
    subst h0
    exact (Int.ediv_emod_unique hp).2 ⟨by rw [h3];grind,by omega,by omega⟩
  · exact (Int.ediv_emod_unique hp).2 ⟨by rw [h3];grind,by omega,by omega⟩
theorem c2m {x y:Int} (hp:0 < y):x.tdiv y=(if x < 0 then -((x.natAbs / y.natAbs:Nat):Int) else ((x.natAbs / y.natAbs:Nat):Int))∧x.tmod y=(if x < 0 then -((x.natAbs%y.natAbs:Nat):Int) else ((x.natAbs%y.natAbs:Nat):Int)):=by
  obtain ⟨b,rfl⟩:=Int.eq_ofNat_of_zero_le (Int.le_of_lt hp)
  by_cases h:x < 0
  · obtain ⟨a,ha⟩:∃a:Nat,x= -(a:Int):=⟨x.natAbs,by omega⟩
    subst ha
    rw [if_pos h,if_pos h,Int.neg_tdiv,Int.neg_tmod,Int.natAbs_neg]
    exact ⟨rfl,rfl⟩
  · obtain ⟨a,rfl⟩:=Int.eq_ofNat_of_zero_le (show 0≤x by omega)
    rw [if_neg h,if_neg h]
    exact ⟨rfl,rfl⟩
theorem b5m {z:Int}:z.sign < 0↔z < 0:=by
  rcases Int.lt_trichotomy z 0 with h|h|h
  · rw [Int.sign_eq_neg_one_of_neg h];omega
  · subst h;decide
  · rw [Int.sign_eq_one_of_pos h];omega
theorem a95 {x y:Int} (hp:0 < y) (h:(if decide (x < 0)=true then -((x.natAbs%y.natAbs:Nat):Int) else ((x.natAbs%y.natAbs:Nat):Int)).sign < 0) :
    (if decide (x < 0)=true then -((x.natAbs / y.natAbs:Nat):Int) else ((x.natAbs / y.natAbs:Nat):Int)) - 1=x / y∧(if decide (x < 0)=true then -((x.natAbs%y.natAbs:Nat):Int) else ((x.natAbs%y.natAbs:Nat):Int))+y=x%y:=by
  rw [b5m] at h
  by_cases hx:x < 0
  · have h1:=a48 hp hx
    simp only [hx,decide_true,if_true] at h ⊢
    rw [if_neg (by omega)] at h1
    exact ⟨h1.1.symm,h1.2.symm⟩
  · simp only [hx,decide_false,Bool.false_eq_true,if_false] at h
    omega
theorem b2a {x y:Int} (hp:0 < y) (h:¬(if decide (x < 0)=true then -((x.natAbs%y.natAbs:Nat):Int) else ((x.natAbs%y.natAbs:Nat):Int)).sign < 0) :
    (if decide (x < 0)=true then -((x.natAbs / y.natAbs:Nat):Int) else ((x.natAbs / y.natAbs:Nat):Int))=x / y∧(if decide (x < 0)=true then -((x.natAbs%y.natAbs:Nat):Int) else ((x.natAbs%y.natAbs:Nat):Int))=x%y:=by
  rw [b5m] at h
  by_cases hx:x < 0
  · have h1:=a48 hp hx
    simp only [hx,decide_true,if_true] at h ⊢
    have h0:x.natAbs%y.natAbs=0:=by omega
    rw [if_pos h0] at h1
    rw [h0]
    exact ⟨h1.1.symm,by rw [h1.2];rfl⟩
  · have h1:=a64 hp (show 0≤x by omega)
    simp only [hx,decide_false,Bool.false_eq_true,if_false]
    exact ⟨h1.1.symm,h1.2.symm⟩
theorem a9m {z:Int}:z.sign=0↔z=0:=by
  rcases Int.lt_trichotomy z 0 with h|h|h
  · rw [Int.sign_eq_neg_one_of_neg h];omega
  · subst h;decide
  · rw [Int.sign_eq_one_of_pos h];omega
theorem a0f {x z:Int} (h:x=z):Sub (n8 x) (n8 z):=h ▸ Sub.refl _
theorem a2z {a z:Int} (e:a=z) (h1:-9223372036854775808≤z) (h2:z < 9223372036854775808):Sub (.agg [.v (.int .i64 a),.v (.slice none 0 0)]) (n8 z):=by subst e;exact a8f h1 h2
theorem b8z {B:Nat} {ds:List Nat} (h:ds.length=1):val B ds=ds.getD 0 0:=by
  match ds,h with
  | [x],_=>simp [val]
theorem d1o {ds:List Nat} (hd:Dig BB ds) (h:2≤ds.length):BB≤val BB ds:=by
  have h1:=hd.lower (by decide) (by intro e;rw [e] at h;simp at h)
  have h2:=Nat.pow_le_pow_right (show 0 < BB by decide) (show 1≤ds.length - 1 by omega)
  rw [Nat.pow_one] at h2
  exact Nat.le_trans h2 h1
theorem d7z (k:Nat):IntKind.i64.wrap ((BitVec.ofInt IntKind.i64.bits (k:Int) &&& BitVec.ofInt IntKind.i64.bits 1).toNat:Int)=((k%2:Nat):Int):=by
  have e:(BitVec.ofInt IntKind.i64.bits (k:Int) &&& BitVec.ofInt IntKind.i64.bits 1).toNat=k%2:=by
    rw [BitVec.toNat_and]
    show (BitVec.ofInt 64 (k:Int)).toNat &&& (BitVec.ofInt 64 1).toNat=_
    rw [show (BitVec.ofInt 64 1).toNat=2 ^ 1 - 1 by decide,Nat.and_two_pow_sub_one_eq_mod,BitVec.toNat_ofInt]
    omega
  rw [e,IntKind.wrap_i64];omega
theorem d9p (k:Nat):(k:Int).fdiv (2 ^ min 1 IntKind.i64.bits)=((k / 2:Nat):Int):=by
  rw [Int.fdiv_eq_ediv_of_nonneg _ (by decide)];rfl
variable {c:Ctx} {Q:Exit→St→Prop} {st:St}
theorem b2i:∀(xs ys:List i7),s8 (xs++ys)=s8 xs+s8 ys
  | [],ys=>by simp [s8]
  | x :: xs,ys=>by simp [s8,b2i xs ys];omega
theorem d2h {h:Nat→Option Box} {b:Nat} {bx:Box}:a57 h b bx b=some bx:=by simp [a57,Nat.beq_refl]
theorem c8k {h:Nat→Option Box} {b x:Nat} {bx:Box} (e:x≠b):a57 h b bx x=h x:=by
  unfold a57
  cases e1:Nat.beq x b with
  | true=>exact absurd (Nat.eq_of_beq_eq_true e1) e
  | false=>rfl
theorem a23 {E:u6} {w:World}:∀{xs ys:List i7} {cs:List Value},j7 E w (xs++ys) cs↔∃as bs,cs=as++bs∧j7 E w xs as∧j7 E w ys bs
  | [],ys,cs=>⟨fun h=>⟨[],cs,rfl,rfl,h⟩,fun ⟨as,bs,h1,h2,h3⟩=>by obtain rfl:as= []:=h2;subst h1;exact h3⟩
  | x :: xs, ys, cs => by
    constructor
    · rintro ⟨us,vs,rfl,h1,h2⟩
      obtain ⟨as,bs,rfl,h3,h4⟩:=(a23 (xs:=xs)).1 h2
      exact ⟨us++as,bs,by simp,⟨us,as,rfl,h1,h3⟩,h4⟩
    · rintro ⟨as,bs,rfl,⟨us,vs,rfl,h1,h2⟩,h3⟩
      exact ⟨us,vs++bs,by simp,h1,(a23 (xs:=xs)).2 ⟨vs,bs,rfl,h2,h3⟩⟩
theorem c8p {E:u6} {w:World} {z:Int} {pre post:List i7} {cs:List Value} (h:j7 E w (pre++.int z :: post) cs) :
    ((-9223372036854775808≤z∧z < 9223372036854775808)∧j7 E w (pre++.v (.int .i64 z) :: .v (.slice none 0 0) :: post) cs)∨
    (9223372036854775808≤z.natAbs∧j7 E w (pre++.v (.int .i64 (if z < 0 then -1 else 1)) :: .nn .u64 (y7 (f7 BB z.natAbs)) :: post) cs):=by
  obtain ⟨as,bs,rfl,h1,us,vs,rfl,h2,h3⟩:=a23.1 h
  have h4:RV E w (n8 z) (.agg us.toArray):=⟨us,rfl,us,[],(List.append_nil _).symm,h2,rfl⟩
  rcases c2a h4 with ⟨h5,ds,e,h6⟩|⟨h5,ds,e,h6⟩
  · have e:us=ds:=by simpa using e
    subst e
    exact .inl ⟨h5,a23.2 ⟨as,us++vs,rfl,h1,(a23 (xs:=[_,_])).2 ⟨us,vs,rfl,h6,h3⟩⟩⟩
  · have e:us=ds:=by simpa using e
    subst e
    exact .inr ⟨h5,a23.2 ⟨as,us++vs,rfl,h1,(a23 (xs:=[_,_])).2 ⟨us,vs,rfl,h6,h3⟩⟩⟩
theorem b83 {code:Code} (b:Nat) (pre post:List i7) (z:Int) {sz:Nat} {ro:Bool} {g:Nat→List i7} (hb:st.h b=some ⟨sz,1,g,ro⟩) (hg:g 0=pre++.int z :: post)
    (hs:-9223372036854775808≤z→z < 9223372036854775808→Wp c code Q { st with h:=a57 st.h b ⟨sz,1,fun _=>pre++.v (.int .i64 z) :: .v (.slice none 0 0) :: post,ro⟩})
    (hl:9223372036854775808≤z.natAbs→Wp c code Q { st with h:=a57 st.h b ⟨sz,1,fun _=>pre++.v (.int .i64 (if z < 0 then -1 else 1)) :: .nn .u64 (y7 (f7 BB z.natAbs)) :: post,ro⟩}):Wp c code Q st:=by
  intro E a w s
  rcases s.boxes b _ hb with ⟨_,q⟩|⟨k,cs,T,h1,h2,h3,h4⟩
  · cases q
  obtain ⟨es,h5,h6,h7⟩:=h4 0 Nat.zero_lt_one
  have h5:s8 (g 0)=sz:=h5
  rw [hg] at h5
  have h6:j7 E w (g 0) es:=h6
  rw [hg] at h6
  have other:∀(ls:List i7),j7 E w ls es→s8 ls=sz→SR c { st with h:=a57 st.h b ⟨sz,1,fun _=>ls,ro⟩} E a w:=by
    intro ls hl' hsl
    refine ⟨s.size,s.defers,s.slots,fun x bx hx=>?_,s.env,s.below,s.own,s.low,s.m,s.free⟩
    by_cases e:x=b
    · subst e
      have hx:a57 st.h x ⟨sz,1,fun _=>ls,ro⟩ x=some bx:=hx
      rw [d2h] at hx
      cases hx
      refine .inr ⟨k,cs,T,h1,h2,h3,fun i hi=>?_⟩
      obtain rfl:i=0:=by
        have:i < 1:=hi
        omega
      exact ⟨es,hsl,hl',h7⟩
    · have hx:a57 st.h b ⟨sz,1,fun _=>ls,ro⟩ x=some bx:=hx
      rw [c8k e] at hx
      exact s.boxes x bx hx
  have hsz:∀ys:List i7,s8 ys=2→s8 (pre++ys++post)=sz:=by
    intro ys hy
    rw [←h5,b2i,b2i,b2i,hy]
    simp [s8,i7.size];omega
  rcases c8p h6 with ⟨h8,h9⟩|⟨h8,h9⟩
  · refine hs h8.1 h8.2 E a w (other _ h9 ?_)
    have:=hsz [.v (.int .i64 z),.v (.slice none 0 0)] rfl
    simpa using this
  · refine hl h8 E a w (other _ h9 ?_)
    have:=hsz [.v (.int .i64 (if z < 0 then -1 else 1)),.nn .u64 (y7 (f7 BB z.natAbs))] rfl
    simpa using this
theorem a9o {a b:Int} {r r':List i7} (h:a=b) (hr:u4 r r'):u4 (.int a :: r) (.int b :: r'):=by
  subst h
  refine ⟨fun E w cs ⟨xs,ys,e,h1,h2⟩=>⟨xs,ys,e,h1,hr.1 _ _ _ h2⟩,by simp [s8,hr.2]⟩
theorem b0k {a b:Rat} {r r':List i7} (h:a=b) (hr:u4 r r'):u4 (.frac a :: r) (.frac b :: r'):=by
  subst h
  refine ⟨fun E w cs ⟨xs,ys,e,h1,h2⟩=>⟨xs,ys,e,h1,hr.1 _ _ _ h2⟩,by simp [s8,hr.2]⟩
theorem c0m {z:Int} {r r':List i7} (h1:-9223372036854775808≤z) (h2:z < 9223372036854775808) (hr:u4 r r'):u4 (.v (.int .i64 z) :: .v (.slice none 0 0) :: r) (.int z :: r'):=by
  refine ⟨fun E w cs ⟨xs,ys,e,⟨h3,_⟩,us,vs,e',⟨h4,_⟩,h5⟩=>⟨[.int .i64 z,.slice none 0 0],vs,?_,.inl ⟨rfl,h1,h2⟩,hr.1 _ _ _ h5⟩,by simp [s8,i7.size,hr.2];omega⟩
  subst h3 h4 e' e;rfl
abbrev a0h (q:Rat):AV:=.agg [.frac q]
theorem b2j {xs ys:List i7} (h:u4 xs ys):Sub (.agg xs) (.agg ys):=fun _ _ _ ⟨cs,hv,h1⟩=>⟨cs,hv,h.1 _ _ _ h1⟩
theorem a3o {a b:Int} {q:Rat} {r r':List i7} (h1:a=q.num) (h2:b=q.den) (hr:u4 r r'):u4 (.int a :: .int b :: r) (.frac q :: r'):=by
  subst h1 h2
  refine ⟨fun E w cs ⟨xs,ys,e,h3,us,vs,e',h4,h5⟩=>⟨xs++us,vs,by rw [e,e',List.append_assoc],⟨xs,us,rfl,h3,h4⟩,hr.1 _ _ _ h5⟩,by simp [s8,i7.size,hr.2];omega⟩
theorem b6b {q:Rat} {r r':List i7} (hr:u4 r r'):u4 (.frac q :: r) (.int q.num :: .int q.den :: r'):=
  ⟨fun _ _ _ ⟨_,ys,e,⟨as,bs,e',h1,h2⟩,h3⟩=>⟨as,bs++ys,by rw [e,e',List.append_assoc],h1,bs,ys,rfl,h2,hr.1 _ _ _ h3⟩,by simp [s8,i7.size,hr.2];omega⟩
theorem u4.trans {a b c:List i7} (h:u4 a b) (g:u4 b c):u4 a c:=⟨fun _ _ _ x=>g.1 _ _ _ (h.1 _ _ _ x),g.2.trans h.2⟩
theorem c9l {x:i7} {r r':List i7} (hr:u4 r r'):u4 (x :: r) (x :: r'):=⟨fun E w cs ⟨xs,ys,e,h1,h2⟩=>⟨xs,ys,e,h1,hr.1 _ _ _ h2⟩,by simp [s8,hr.2]⟩
end Go.Ax
end
