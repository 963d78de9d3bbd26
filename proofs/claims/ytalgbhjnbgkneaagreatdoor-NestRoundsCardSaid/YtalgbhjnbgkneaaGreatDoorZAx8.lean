/- Lemmas on the program and its library, part Ax8. -/
import Derived.Test.YtalgbhjnbgkneaaGreatDoorZAx7e
set_option linter.unusedVariables false
set_option linter.unusedSimpArgs false
section
set_option maxHeartbeats 1000000
namespace Go.Ax
open Go.RowKit (Below)
def upd (t:Nat→AV) (d:Nat) (x:AV) (n:Nat):AV:=match Nat.beq n d with
  | true=>x
  | false=>t n
def hupd (h:Nat→Option Box) (d:Nat) (x:Box) (n:Nat):Option Box:=match Nat.beq n d with
  | true=>some x
  | false=>h n
theorem upd_eq (t:Nat→AV) (d:Nat) (x:AV) (n:Nat):upd t d x n=if n=d then x else t n:=by
  unfold upd
  by_cases e:n=d
  · subst e;simp
  · have:Nat.beq n d=false:=by cases h:Nat.beq n d with
      | false=>rfl
      | true=>exact absurd (Nat.eq_of_beq_eq_true h) e
    simp [this,e]
theorem hupd_eq (h:Nat→Option Box) (d:Nat) (x:Box) (n:Nat):hupd h d x n=if n=d then some x else h n:=by
  unfold hupd
  by_cases e:n=d
  · subst e;simp
  · have:Nat.beq n d=false:=by cases h:Nat.beq n d with
      | false=>rfl
      | true=>exact absurd (Nat.eq_of_beq_eq_true h) e
    simp [this,e]
def St.put (st:St) (dst:Option Tmp) (x:AV):St:=match dst with
  | some d=>{ st with t:=upd st.t d x }
  | none=>st
def St.eff (st:St) (e:Eff):St:=match e with
  | .none=>st
  | .new id bx=>{ st with h:=hupd st.h id bx,nb:=id+1 }
  | .set id bx=>{ st with h:=hupd st.h id bx }
def St.step (st:St) (dst:Option Tmp) (it:Item):St:=(st.put dst it.val).eff it.eff
structure Sh where
  reads:List Nat
  eff:Option (Bool×Nat)
def Eff.sh:Eff→Option (Bool×Nat)
  | .none=>Option.none
  | .new id _=>some (true,id)
  | .set id _=>some (false,id)
inductive Res where
  | val (it:Item)
  | ok (pre:Prop) (it:Item)
  | call (f:FuncId) (args:List AV)
  | hand
  | bad
def onesOf:List AV→Option (List Leaf)
  | []=>some []
  | .one l :: r => match onesOf r with
    | some ls=>some (l :: ls)
    | none=>none
  | _ :: _=>none
theorem onesOf_R {E:Env} {w:World}:∀{xs:List AV} {ls:List Leaf} {vs:List Value},onesOf xs=some ls→RVs E w xs vs→LeavesR E w ls vs
  | [],ls,vs,h,hv=>by cases h;exact hv
  | .one l :: r, ls, vs, h, hv => by
    unfold onesOf at h
    split at h
    · rename_i ls' h'
      cases h
      obtain ⟨v,r',rfl,⟨_,h1⟩,h2⟩:=hv
      exact ⟨[v],r',rfl,h1,onesOf_R h' h2⟩
    · cases h
  | .agg _ :: _,_,_,h,_=>by simp [onesOf] at h
  | .tup _ :: _,_,_,h,_=>by simp [onesOf] at h
  | .u :: _,_,_,h,_=>by simp [onesOf] at h
theorem step_makeFunc {P:Program} {G:World→Prop} {o:Oper} {fn:Fn} {first captured:Array Operand} (ho:o.op= .makeFunc fn first captured) {ev:Operand→AV} {fs cs:List Leaf} (h1:onesOf (first.toList.map ev)=some fs) (h2:onesOf (captured.toList.map ev)=some cs) (H:Nat→Option Box):StepSound P G o ev H { val:=.one (.fn fn fs cs) }:=by
  refine step_value fun E w a _ _ hops _=>?_
  have o1:=onesOf_R h1 (RVs_map (E:=E) (w:=w) (f:=a.eval) first.toList fun y hy=>hops y (by rw [ho];show y∈first++captured;exact Array.mem_append.2 (.inl (by simpa using hy))))
  have o2:=onesOf_R h2 (RVs_map (E:=E) (w:=w) (f:=a.eval) captured.toList fun y hy=>hops y (by rw [ho];show y∈first++captured;exact Array.mem_append.2 (.inr (by simpa using hy))))
  refine ⟨.func fn (first.map a.eval) (captured.map a.eval),?_,rfl,first.toList.map a.eval,captured.toList.map a.eval,?_,o1,o2⟩
  · unfold execOp;rw [ho];dsimp only
    simp only [Instr.makeFunc,Sem.run_bind,Sem.run_pure,Result.andThen_ok]
  · simp only [List.cons.injEq,and_true,Value.func.injEq,true_and]
    exact ⟨by rw [←Array.toList_map],by rw [←Array.toList_map]⟩
section
variable (tt:TypeId→Option TyI) (nb0:Nat)
def mxI (a b:Int):Int:=if a < b then b else a
def absCall (cl:Call) (ev:Operand→AV):Res:=
  match cl.callee with
  | .value (.func f)=>.call f (cl.args.toList.map ev)
  | .value (.tmp t) => match ev (.tmp t) with
    | .one (.fn (.func f) fs cs) => match fs.all (fun l => Nat.beq l.size 1), cs.all (fun l => Nat.beq l.size 1) with
      | true,true=>.call f (fs.map AV.one++cl.args.toList.map ev++cs.map AV.one)
      | _,_=>.hand
    | _=>.hand
  | .builtin .len => match cl.args.toList, cl.argTypes.toList with
    | [x], [T] => match ev x, tt T with
      | .one (.v (.string s)), some ti => match ti.kind with
        | .string=>.val { val:=.one (.v (.int .i64 s.size)) }
        | _=>.bad
      | y, some ti => match lenA y, ti.kind with
        | some n,.slice _ _=>.val { val:=.one (.v (.int .i64 n)) }
        | _,_=>.hand
      | _,_=>.bad
    | _,_=>.bad
  | .builtin .min => match cl.args.toList with
    | [x, y] => match ev x, ev y with
      | .one (.v (.int k a)), .one (.v (.int k' b)) => match sameK k k' with
        | true=>.val { val:=.one (.v (.int k (if b < a then b else a))) }
        | false=>.bad
      | _,_=>.bad
    | _=>.bad
  | .builtin .max => match cl.args.toList with
    | [x, y] => match ev x, ev y with
      | .one (.v (.int k a)), .one (.v (.int k' b)) => match sameK k k' with
        | true=>.val { val:=.one (.v (.int k (if a < b then b else a))) }
        | false=>.bad
      | _,_=>.bad
    | [x, y, z, u] => match ev x, ev y, ev z, ev u with
      | .one (.v (.int k a)),.one (.v (.int _ b)),.one (.v (.int _ c)),.one (.v (.int _ d))=>.val { val:=.one (.v (.int k (mxI (mxI (mxI a b) c) d))) }
      | _,_,_,_=>.bad
    | _=>.bad
  | _=>.hand
def absOp (o:Oper) (ev:Operand→AV) (h:Nat→Option Box) (nb:Nat):Res:=
  match o.op with
  | .move x=>.val { val:=ev x }
  | .assign x=>.val { val:=ev x }
  | .pick c x y => match ev c with
    | .one (.v (.bool b))=>.val { val:=pickAV b (ev x) (ev y) }
    | _=>.bad
  | .box _ x => match (ev x).leaves with
    | some ls=>.val { val:=.one (.ptr nb (sizes ls) 0 0),eff:=.new nb { sz:=sizes ls,n:=1,g:=fun _=>ls } }
    | none=>.bad
  | .alloc T => match tt T with
    | some ti => match ti.zero with
      | some zs => match zs.all (·.oneCell') with
        | true=>.val { val:=.one (.ptr nb (sizes (zs.map Leaf.v)) 0 0),eff:=.new nb { sz:=sizes (zs.map Leaf.v),n:=1,g:=fun _=>zs.map Leaf.v } }
        | false=>.bad
      | none=>.bad
    | none=>.bad
  | .load T x => match ev x, tt T with
    | .one (.ptr b sz i off), some ti => match h b with
      | some bx => match subL (bx.g i) off ti.size with
        | some ls => match mkAV ti.agg ls with
          | some y=>.ok (i < bx.n∧sz=bx.sz∧0 < ti.size) { val:=y,reads:=[b] }
          | none=>.bad
        | none=>.bad
      | none=>.bad
    | .one (.pp xs), some ti => match subL xs 0 ti.size with
      | some ls => match mkAV ti.agg ls, Nat.ble 1 ti.size with
        | some y,true=>.val { val:=y }
        | _,_=>.bad
      | none=>.bad
    | _,_=>.bad
  | .store T x y => match ev x, tt T with
    | .one (.ptr b sz i off), some ti => match h b with
      | some bx => match (ev y).leaves with
        | some new => match setL (bx.g i) off ti.size new with
          | some ls=>.ok (nb0≤b∧i < bx.n∧sz=bx.sz∧sizes new=ti.size∧off+ti.size≤bx.sz) { val:=.u,eff:=.set b (bx.put i ls) }
          | none=>.bad
        | none=>.bad
      | none=>.bad
    | _,_=>.bad
  | .fieldAddr T x f => match tt T with
    | some ti => match ti.kind with
      | .struct offs => match offs[f]?, ev x with
        | some (d, c, _), .one (.ptr b sz i off) => match Nat.ble 1 c with
          | true=>.val { val:=.one (.ptr b sz i (off+d)) }
          | false=>.bad
        | some (d, c, _), .one (.pp xs) => match dropL xs d, Nat.ble 1 c with
          | some ys,true=>.val { val:=.one (.pp ys) }
          | _,_=>.bad
        | _,_=>.bad
      | _=>.bad
    | none=>.bad
  | .binOp op T x y _ => match ev x, ev y with
    | .one (.v a), .one (.v b) => match tt T with
      | some ti => match binV ti.kind op a b with
        | some (pre,v)=>.ok (pre∧v.oneCell'=true) { val:=.one (.v v) }
        | none=>.hand
      | none=>.bad
    | .one (.nn _ _), .one (.v (.slice none n0 c0)) => match tt T with
      | some ti => match ti.kind, op, nilS n0 c0 with
        | .slice _ _,.eql,true=>.val { val:=.one (.v (.bool false)) }
        | .slice _ _,.neq,true=>.val { val:=.one (.v (.bool true)) }
        | _,_,_=>.bad
      | none=>.bad
    | .agg xs, .agg ys => match tt T with
      | some ti => match ti.flat, ti.agg, valsOf xs, valsOf ys with
        | some ks, true, some vs, some us => match ksOk ks vs, ksOk ks us, op with
          | true,true,.eql=>.val { val:=.one (.v (.bool (eqVs vs us))) }
          | true,true,.neq=>.val { val:=.one (.v (.bool (!eqVs vs us))) }
          | _,_,_=>.bad
        | _,_,_,_=>.hand
      | none=>.bad
    | _,_=>.hand
  | .unOp op _ x => match ev x with
    | .one (.v a) => match unV op a with
      | some v=>.val { val:=.one (.v v) }
      | none=>.hand
    | _=>.bad
  | .convert S T x => match ev x with
    | .one (.v a) => match tt S, tt T with
      | some si, some ti => match convV si.kind ti.kind a with
        | some v=>.val { val:=.one (.v v) }
        | none=>.hand
      | _,_=>.bad
    | _=>.hand
  | .extract x i => match ev x with
    | .tup xs => match xs[i]? with
      | some y=>.val { val:=y }
      | none=>.bad
    | _=>.bad
  | .indexAddr T x y => match ev y, tt T with
    | .one (.v (.int _ i)), some ti => match ti.kind with
      | .slice _ sz => match idxA sz i (ev x) with
        | some (pre,r)=>.ok (0 < sz∧pre) { val:=r }
        | none=>.bad
      | .array m _ sz => match ev x with
        | .one (.ptr b s j off)=>.ok (0 < sz∧0≤i∧i < m) { val:=.one (.ptr b s j (off+i.toNat*sz)) }
        | .one (.pp xs) => match dropL xs (i.toNat * sz) with
          | some ys=>.ok (0 < sz∧0≤i∧i < m) { val:=.one (.pp ys) }
          | none=>.bad
        | _=>.bad
      | _=>.bad
    | _,_=>.bad
  | .field T x f => match ev x, tt T with
    | .agg xs, some ti => match ti.kind with
      | .struct offs => match offs[f]? with
        | some (d, c, true) => match subL xs d c, Nat.ble 1 c with
          | some ls,true=>.val { val:=.agg ls }
          | _,_=>.bad
        | _=>.bad
      | _=>.bad
    | _,_=>.hand
  | .index T x y => match ev y, tt T, ev x with
    | .one (.v (.int _ i)), some ti, .one (.v (.string s)) => match ti.kind with
      | .string=>.ok (0≤i∧i < s.size) { val:=.one (.v (.int .u8 (s.data.getD i.toNat 0).toNat)) }
      | _=>.bad
    | .one (.v (.int _ i)), some ti, .agg xs => match ti.kind with
      | .array m e sz => match tt e, subL xs (i.toNat * sz) sz with
        | some te, some ls => match mkAV te.agg ls with
          | some v=>.ok (0 < sz∧(0≤i∧i < m)∧(te.agg=false→sz=1)) { val:=v }
          | none=>.bad
        | _,_=>.bad
      | _=>.bad
    | _,_,_=>.hand
  | .slice T x lo hi none => match optInt ev lo, optInt ev hi, tt T with
    | some l, some hh, some ti => match ev x, ti.kind with
      | .one (.v (.string s)),.string=>.ok (0≤l.getD 0∧l.getD 0≤hh.getD s.size∧hh.getD s.size≤s.size) { val:=.one (.v (.string (s.extract (l.getD 0).toNat (hh.getD s.size).toNat))) }
      | .one (.ints k xs), .slice _ s1 => match Nat.beq s1 1 with
        | true=>.ok (0≤l.getD 0∧l.getD 0≤hh.getD xs.length∧hh.getD xs.length≤xs.length) { val:=.one (.ints k ((xs.drop (l.getD 0).toNat).take ((hh.getD xs.length).toNat - (l.getD 0).toNat))) }
        | false=>.bad
      | .one (.nn k xs), .slice _ s1 => match Nat.beq s1 1 with
        | true=>.ok (0≤l.getD 0∧l.getD 0≤hh.getD xs.length∧hh.getD xs.length≤xs.length) { val:=.one (.ints k ((xs.drop (l.getD 0).toNat).take ((hh.getD xs.length).toNat - (l.getD 0).toNat))) }
        | false=>.bad
      | .one (.own b s i n c),.slice _ s'=>.ok (s'=s∧0 < s∧0≤l.getD 0∧l.getD 0≤hh.getD n∧hh.getD n≤c∧(l.getD 0=0∨l.getD 0 < c)) { val:=.one (.own b s (i+(l.getD 0).toNat) ((hh.getD n).toNat - (l.getD 0).toNat) (c - (l.getD 0).toNat)) }
      | .one (.pp xs), .array m e sz => match lo, hi, Nat.ble 1 sz, partsL xs sz m with
        | none, none, true, some lss => match lss.all (fun ls => sizes ls == sz) with
          | true=>.val { val:=.one (.row sz m fun i=>lss.getD i []) }
          | false=>.bad
        | _,_,_,_=>.hand
      | _,_=>.hand
    | _,_,_=>.bad
  | .makeSlice T x y => match ev x, ev y, tt T with
    | .one (.v (.int _ l)), .one (.v (.int _ c)), some ti => match ti.kind with
      | .slice e sz => match tt e with
        | some te => match te.zero with
          | some zs=>.ok (0 < sz∧zs.all (·.oneCell')=true∧zs.length=sz∧0≤l∧l≤c∧(te.bytes:Int)*c≤281474976710656∧c≤9223372036854775807)
              { val:=.one (.own nb sz 0 l.toNat c.toNat),eff:=.new nb { sz:=sz,n:=c.toNat,g:=fun _=>zs.map Leaf.v } }
          | none=>.bad
        | none=>.bad
      | _=>.bad
    | _,_,_=>.bad
  | .build T parts => match tt T with
    | some ti => match ti.zero with
      | some zs => match buildL (partOffs ti.kind) ev parts.toList (zs.map Leaf.v), partsOk ti.kind, zs.all (·.oneCell') with
        | some ls,true,true=>.val { val:=.agg ls }
        | _,_,_=>.bad
      | none=>.bad
    | none=>.bad
  | .buildSlice T len parts => match tt T with
    | some ti => match ti.kind with
      | .slice e sz => match tt e with
        | some te => match Nat.beq len 0, te.zero, rowLeaves ev parts.toList 0 with
          | true,some _,some []=>.ok (0 < sz) { val:=.one (.gr nb sz 0 0),eff:=.new nb ⟨sz,0,fun _=> [],true⟩}
          | false,some _,some lss=>.ok (0 < sz∧lss.all (fun ls=>sizes ls == sz && ls.all Leaf.clB)=true∧lss.length=len∧parts.toList.length=len∧len*sz≤16777216) { val:=.one (.row sz len fun i=>lss.getD i []) }
          | _,_,_=>.bad
        | none=>.bad
      | _=>.bad
    | none=>.bad
  | .makeFunc fn first captured => match onesOf (first.toList.map ev), onesOf (captured.toList.map ev) with
    | some fs,some cs=>.val { val:=.one (.fn fn fs cs) }
    | _,_=>.hand
  | .call cl=>absCall tt cl ev
  | _=>.hand
end
structure Good (P:Program) (G:World→Prop) (nb0:Nat) (o:Oper) (ev:Operand→AV) (h:Nat→Option Box) (nb:Nat) (it:Item):Prop where
  sound:StepSound P G o ev h it
  new:∀id bx,it.eff= .new id bx→id=nb
  set:∀id bx,it.eff= .set id bx→nb0≤id
theorem good_none {P G nb0 o ev h nb} {it:Item} (h1:StepSound P G o ev h it) (h2:it.eff= .none):Good P G nb0 o ev h nb it:=
  ⟨h1,(fun _ _ h=>by rw [h2] at h;cases h),(fun _ _ h=>by rw [h2] at h;cases h)⟩
def Res.sound (P:Program) (G:World→Prop) (nb0:Nat) (o:Oper) (ev:Operand→AV) (h:Nat→Option Box) (nb:Nat):Res→Prop
  | .val it=>Good P G nb0 o ev h nb it
  | .ok pre it=>pre→Good P G nb0 o ev h nb it
  | .call f xs=>CallsTo P o ev f xs
  | .hand=>True
  | .bad=>True
theorem ble1 {n:Nat} (h:Nat.ble 1 n=true):0 < n:=Nat.le_of_ble_eq_true h
theorem step_max4 {P:Program} {G:World→Prop} {o:Oper} {x y z u:Operand} {ats:Array TypeId} (ho:o.op= .call { callee:=.builtin .max,args:=#[x,y,z,u],argTypes:=ats }) {ev:Operand→AV} {k k1 k2 k3:IntKind} {a b c d:Int} (hx:ev x= .one (.v (.int k a))) (hy:ev y= .one (.v (.int k1 b))) (hz:ev z= .one (.v (.int k2 c))) (hu:ev u= .one (.v (.int k3 d))) (H:Nat→Option Box) :
    StepSound P G o ev H { val:=.one (.v (.int k (mxI (mxI (mxI a b) c) d))) }:=by
  refine step_value fun E w ac _ _ hops _=>⟨.int k (mxI (mxI (mxI a b) c) d),?_,rfl,rfl,rfl⟩
  have g1:=hops x (by rw [ho];simp [Op.operands,Call.operands])
  have g2:=hops y (by rw [ho];simp [Op.operands,Call.operands])
  have g3:=hops z (by rw [ho];simp [Op.operands,Call.operands])
  have g4:=hops u (by rw [ho];simp [Op.operands,Call.operands])
  rw [hx] at g1;rw [hy] at g2;rw [hz] at g3;rw [hu] at g4
  obtain ⟨_,g1,_⟩:=g1
  obtain ⟨_,g2,_⟩:=g2
  obtain ⟨_,g3,_⟩:=g3
  obtain ⟨_,g4,_⟩:=g4
  simp only [List.cons.injEq,and_true] at g1 g2 g3 g4
  unfold execOp;rw [ho]
  simp [resolve,invoke,builtin,Builtin.max_,Builtin.max2,g1,g2,g3,g4,mxI]
  rfl
theorem absOp_sound {P:Program} {G:World→Prop} {tt:TypeId→Option TyI} (htt:TtOk P tt) {nb0:Nat} (o:Oper) (ev:Operand→AV) (h:Nat→Option Box) (nb:Nat):(absOp tt nb0 o ev h nb).sound P G nb0 o ev h nb:=by
  unfold absOp
  split
  · rename_i x ho;exact good_none (step_move (.inl ho) ev h) rfl
  · rename_i x ho;exact good_none (step_move (.inr ho) ev h) rfl
  · rename_i c x y ho
    split
    · rename_i b hc;exact good_none (step_pick ho hc h) rfl
    · trivial
  · rename_i T x ho
    split
    · rename_i ls hx
      exact ⟨step_box ho h nb hx,(fun _ _ h=>by cases h;rfl),(fun _ _ h=>by cases h)⟩
    · trivial
  · rename_i T ho
    split
    · rename_i ti ht
      split
      · rename_i zs hz
        split
        · rename_i h1
          exact ⟨step_alloc ho (htt _ _ ht) hz h1 ev h nb,(fun _ _ h=>by cases h;rfl),(fun _ _ h=>by cases h)⟩
        · trivial
      · trivial
    · trivial
  · rename_i T x ho
    split
    · rename_i b sz i off ti hx ht
      split
      · rename_i bx hb
        split
        · rename_i ls hls
          split
          · rename_i y hy
            exact fun H=>good_none (step_load ho hx hb H.1 H.2.1 (htt _ _ ht) H.2.2 hls hy) rfl
          · trivial
        · trivial
      · trivial
    · rename_i xs ti hx ht
      split
      · rename_i ls hls
        split
        · rename_i y hy hp
          exact good_none (step_load_pp ho hx h (htt _ _ ht) (ble1 hp) hls hy) rfl
        · trivial
      · trivial
    · trivial
  · rename_i T x y ho
    split
    · rename_i b sz i off ti hx ht
      split
      · rename_i bx hb
        split
        · rename_i new hy
          split
          · rename_i ls hls
            exact fun H=>⟨step_store ho hx hb H.2.1 H.2.2.1 (htt _ _ ht) hy H.2.2.2.1 hls H.2.2.2.2,(fun _ _ h=>by cases h),(fun _ _ h=>by cases h;exact H.1)⟩
          · trivial
        · trivial
      · trivial
    · trivial
  · rename_i T x f ho
    split
    · rename_i ti ht
      split
      · rename_i offs hk
        split
        · rename_i d c r b sz i off hf hx
          split
          · rename_i hc
            exact good_none (step_fieldAddr ho hx h (htt _ _ ht) hk hf (ble1 hc)) rfl
          · trivial
        · rename_i d c r xs hf hx
          split
          · rename_i ys hy hc
            exact good_none (step_fieldAddr_pp ho hx h (htt _ _ ht) hk hf (ble1 hc) hy) rfl
          · trivial
        · trivial
      · trivial
    · trivial
  · rename_i op T x y T' ho
    split
    · rename_i a b hx hy
      split
      · rename_i ti ht
        split
        · rename_i pre v hb
          exact fun H=>good_none (step_binV ho hx hy h (htt _ _ ht) hb H.1 H.2) rfl
        · trivial
      · trivial
    · rename_i k l n0 c0 hx hy
      split
      · rename_i ti ht
        split
        · rename_i hk h0
          obtain ⟨rfl,rfl⟩:=nilS_eq h0
          exact good_none (step_nn_nil ho hx hy h (htt _ _ ht) hk (.inl ⟨rfl,rfl⟩)) rfl
        · rename_i hk h0
          obtain ⟨rfl,rfl⟩:=nilS_eq h0
          exact good_none (step_nn_nil ho hx hy h (htt _ _ ht) hk (.inr ⟨rfl,rfl⟩)) rfl
        · trivial
      · trivial
    · rename_i xs ys hx hy
      split
      · rename_i ti ht
        split
        · rename_i ks vs us hf hag hv hu
          split
          · rename_i h1 h2
            exact good_none (step_eqAgg ho hx hy h (htt _ _ ht) hf hag hv hu h1 h2 (.inl ⟨rfl,rfl⟩)) rfl
          · rename_i h1 h2
            exact good_none (step_eqAgg ho hx hy h (htt _ _ ht) hf hag hv hu h1 h2 (.inr ⟨rfl,rfl⟩)) rfl
          · trivial
        · trivial
      · trivial
    · trivial
  · rename_i op T x ho
    split
    · rename_i a hx
      split
      · rename_i v hv
        exact good_none (step_unV ho hx h hv) rfl
      · trivial
    · trivial
  · rename_i S T x ho
    split
    · rename_i a hx
      split
      · rename_i si ti hs ht
        split
        · rename_i v hv
          exact good_none (step_convV ho hx h (htt _ _ hs) (htt _ _ ht) hv) rfl
        · trivial
      · trivial
    · trivial
  · rename_i x i ho
    split
    · rename_i xs hx
      split
      · rename_i y hy
        exact good_none (step_extract ho hx h hy) rfl
      · trivial
    · trivial
  · rename_i T x y ho
    split
    · rename_i kd i ti hy ht
      split
      · rename_i e sz hk
        split
        · rename_i pre r hr
          exact fun H=>good_none (step_idx ho hy h (htt _ _ ht) hk H.1 hr H.2) rfl
        · trivial
      · rename_i m e sz hk
        split
        · rename_i b s j off hx
          exact fun H=>good_none (step_idxArr ho hy h (htt _ _ ht) hk H.1 hx H.2) rfl
        · rename_i xs hx
          split
          · rename_i ys hd
            exact fun H=>good_none (step_idxArr_pp ho hy h (htt _ _ ht) hk H.1 hx hd H.2) rfl
          · trivial
        · trivial
      · trivial
    · trivial
  · rename_i T x f ho
    split
    · rename_i xs ti hx ht
      split
      · rename_i offs hk
        split
        · rename_i d c hf
          split
          · rename_i ls hls hc
            refine good_none (step_field ho hx h (htt _ _ ht) hk hf (ble1 hc) hls rfl (fun e=>(by cases e)) fun fs fd q1 q2 q3=>?_) rfl
            obtain ⟨fs',fd',w1,w2,_,_,w3⟩:=tyI_struct (htt _ _ ht) hk hf
            rw [q1] at w1
            cases w1
            rw [q2] at w2
            cases w2
            rw [q3] at w3
            cases w3
          · trivial
        · trivial
      · trivial
    · trivial
  · rename_i T x y ho
    split
    · rename_i kd i ti s hy ht hx
      split
      · rename_i hk
        exact fun H=>good_none (step_indexStr ho hy hx h (htt _ _ ht) hk H) rfl
      · trivial
    · rename_i kd i ti xs hy ht hx
      split
      · rename_i m e sz hk
        split
        · rename_i te ls hte hls
          split
          · rename_i v hv
            exact fun H=>good_none (step_indexAgg ho hy hx h (htt _ _ ht) hk (htt _ _ hte) H.1 hls hv H.2.1 H.2.2) rfl
          · trivial
        · trivial
      · trivial
    · trivial
  · rename_i T x lo hi ho
    split
    · rename_i l hh ti hl hh' ht
      split
      · rename_i s hx hk
        exact fun H=>good_none (step_sliceStr ho hx h (htt _ _ ht) hk hl hh' H.1 H.2.1 H.2.2) rfl
      · rename_i k xs e s1 hx hk
        split
        · rename_i h1
          have h1:=Nat.eq_of_beq_eq_true h1
          subst h1
          exact fun H=>good_none (step_sliceInts ho (.inl hx) h (htt _ _ ht) hk hl hh' H.1 H.2.1 H.2.2) rfl
        · trivial
      · rename_i k xs e s1 hx hk
        split
        · rename_i h1
          have h1:=Nat.eq_of_beq_eq_true h1
          subst h1
          exact fun H=>good_none (step_sliceInts ho (.inr hx) h (htt _ _ ht) hk hl hh' H.1 H.2.1 H.2.2) rfl
        · trivial
      · rename_i b s i n c e s' hx hk
        rintro ⟨rfl,h1,h2,h3,h4,h5⟩
        exact good_none (step_sliceOwn ho hx h (htt _ _ ht) hk h1 hl hh' h2 h3 h4 h5) rfl
      · rename_i xs m e sz hx hk
        split
        · split
          · rename_i hss
            exact good_none (step_sliceArr ho hx h (htt _ _ ht) hk (ble1 (by assumption)) (by assumption) hss) rfl
          · trivial
        · trivial
      · trivial
    · trivial
  · rename_i T x y ho
    split
    · rename_i kl l kc c ti hx hy ht
      split
      · rename_i e sz hk
        split
        · rename_i te hte
          split
          · rename_i zs hz
            rintro ⟨h1,h2,h3,h4⟩
            exact ⟨step_make ho hx hy h nb (htt _ _ ht) hk h1 (htt _ _ hte) hz h2 h3 h4,(fun _ _ h=>by cases h;rfl),(fun _ _ h=>by cases h)⟩
          · trivial
        · trivial
      · trivial
    · trivial
  · rename_i T parts ho
    split
    · rename_i ti ht
      split
      · rename_i zs hz
        split
        · rename_i ls hls hp h1
          exact good_none (step_build ho h (htt _ _ ht) hp hz h1 hls) rfl
        · trivial
      · trivial
    · trivial
  · rename_i T len parts ho
    split
    · rename_i ti ht
      split
      · rename_i e sz hk
        split
        · rename_i te hte
          split
          · rename_i zs he hz hl
            have he:=Nat.eq_of_beq_eq_true he
            subst he
            have hp:parts.toList= []:=by
              cases hpp:parts.toList with
              | nil=>rfl
              | cons p r =>
                rw [hpp] at hl
                obtain ⟨i,x⟩:=p
                simp only [rowLeaves] at hl
                split at hl
                · split at hl
                  · cases hl
                  · cases hl
                · cases hl
            exact fun h1=>⟨step_buildSlice0 ho h (htt _ _ ht) hk h1 hp nb,(fun _ _ h=>by cases h;rfl),(fun _ _ h=>by cases h)⟩
          · rename_i zs lss he hz hl
            rintro ⟨h1,h2,h3,h4,h5⟩
            have h2':∀ls∈lss,sizes ls=sz∧ls.all Leaf.clB=true:=fun ls hls=>by
              have:=List.all_eq_true.1 h2 ls hls
              rw [Bool.and_eq_true] at this
              exact ⟨by simpa using this.1,this.2⟩
            exact good_none (step_buildSlice ho h (htt _ _ ht) hk h1 (htt _ _ hte) hz hl (fun ls hls=>(h2' ls hls).1) (fun ls hls=>clL_of (h2' ls hls).2) h3 h4 h5) rfl
          · trivial
        · trivial
      · trivial
    · trivial
  · rename_i fn first captured ho
    split
    · rename_i fs cs h1 h2
      exact good_none (step_makeFunc ho h1 h2 h) rfl
    · trivial
  · rename_i cl ho
    obtain ⟨cal,args,ats⟩:=cl
    unfold absCall
    split
    · rename_i f hf
      dsimp only at hf
      subst hf
      exact calls_direct ho
    · rename_i t hf
      dsimp only at hf
      subst hf
      split
      · rename_i f fs cs ht
        split
        · rename_i h1 h2
          exact calls_value ho ht h1 h2
        · trivial
      · trivial
    · rename_i hf
      dsimp only at hf
      subst hf
      split
      · rename_i x T hx hT
        have e1:args=#[x]:=by rw [←Array.toList_inj];exact hx
        have e2:ats=#[T]:=by rw [←Array.toList_inj];exact hT
        subst e1 e2
        split
        · rename_i s ti hs ht
          split
          · rename_i hk
            exact good_none (step_len ho rfl (by rw [hs];rfl) h (htt _ _ ht) (.inl ⟨hk,s,hs⟩)) rfl
          · trivial
        · rename_i ti ht hns
          split
          · rename_i n e sz hn hk
            refine good_none (step_len ho rfl hn h (htt _ _ ht) (.inr ⟨⟨e,sz,hk⟩,fun ⟨s,hs⟩=>?_⟩)) rfl
            exact hns s hs
          · trivial
        · trivial
      · trivial
    · rename_i hf
      dsimp only at hf
      subst hf
      split
      · rename_i x y hx
        have e1:args=#[x,y]:=by rw [←Array.toList_inj];exact hx
        subst e1
        split
        · rename_i k a k' b hx hy
          split
          · rename_i e
            have e:=sameK_eq e
            subst e
            exact good_none (step_min ho hx hy h) rfl
          · trivial
        · trivial
      · trivial
    · rename_i hf
      dsimp only at hf
      subst hf
      split
      · rename_i x y hx
        have e1:args=#[x,y]:=by rw [←Array.toList_inj];exact hx
        subst e1
        split
        · rename_i k a k' b hx hy
          split
          · rename_i e
            have e:=sameK_eq e
            subst e
            exact good_none (step_max ho hx hy h) rfl
          · trivial
        · trivial
      · rename_i x y z u hx
        have e1:args=#[x,y,z,u]:=by rw [←Array.toList_inj];exact hx
        subst e1
        split
        · rename_i k a k1 b k2 c k3 d hx hy hz hu
          exact good_none (step_max4 ho hx hy hz hu h) rfl
        · trivial
      · trivial
    · trivial
  · trivial
def AllP:List Prop→Prop
  | []=>True
  | p :: ps=>p∧AllP ps
theorem allP_nil:AllP []:=trivial
theorem allP_cons {p:Prop} {ps:List Prop} (h:p) (hs:AllP ps):AllP (p :: ps):=⟨h,hs⟩
inductive Out where
  | done (ps:List Prop) (st:St) (sh:List Sh)
  | call (ps:List Prop) (f:FuncId) (xs:List AV) (dst:Option Tmp) (rest:List Oper) (st:St) (sh:List Sh)
  | guard (ps:List Prop) (b want:Bool) (d:Nat) (o:Oper) (rest:List Oper) (st:St) (sh:List Sh)
  | hand (ps:List Prop) (o:Oper) (rest:List Oper) (st:St) (sh:List Sh)
  | bad
section
variable (tt:TypeId→Option TyI) (nb0:Nat)
def absRes (o:Oper) (rest:List Oper) (st:St) (sh:List Sh) (ps:List Prop) (go:St→List Sh→List Prop→Out):Res→Out
  | .val it=>go (st.step o.dst it) (sh++ [⟨it.reads,it.eff.sh⟩]) ps
  | .ok pre it=>go (st.step o.dst it) (sh++ [⟨it.reads,it.eff.sh⟩]) (pre :: ps)
  | .call f xs=>.call ps f xs o.dst rest st sh
  | .hand=>.hand ps o rest st sh
  | .bad=>.bad
def absOne (o:Oper) (rest:List Oper) (st:St) (sh:List Sh) (ps:List Prop) (go:St→List Sh→List Prop→Out):Out:=
  absRes o rest st sh ps go (absOp tt nb0 o (evAt st.t) st.h st.nb)
def nthO:List Oper→Nat→Option Tmp
  | [],_=>none
  | o :: _,0=>o.dst
  | _ :: r,n+1=>nthO r n
theorem nthO_eq:∀(l:List Oper) (j:Nat),nthO l j=(l[j]?).bind (·.dst)
  | [],_=>rfl
  | _ :: _,0=>rfl
  | _ :: r,j+1=>by simp only [nthO,nthO_eq r j,List.getElem?_cons_succ]
def absGd (o:Oper) (rest:List Oper) (st:St) (sh:List Sh) (ps:List Prop) (want:Bool) (d:Nat) (go:St→List Sh→List Prop→Out):AV→Out
  | .one (.v (.bool b))=>.guard ps b want d o rest st sh
  | .tup []=>go (st.put o.dst (.tup [])) (sh++ [⟨[],none⟩]) ps
  | _=>.bad
def absGn (o:Oper) (rest:List Oper) (st:St) (sh:List Sh) (ps:List Prop) (want:Bool) (go:St→List Sh→List Prop→Out):Option Tmp→Out
  | some d=>absGd o rest st sh ps want d go (st.t d)
  | none=>.bad
def absGg (ops:Array Oper) (o:Oper) (rest:List Oper) (st:St) (sh:List Sh) (ps:List Prop) (go:St→List Sh→List Prop→Out):Option (Nat×Bool)→Out
  | none=>absOne tt nb0 o rest st sh ps go
  | some (j,want)=>absGn o rest st sh ps want go (nthO ops.toList j)
def absGo (ops:Array Oper):List Oper→St→List Sh→List Prop→Out
  | [],st,sh,ps=>.done ps st sh
  | o :: rest,st,sh,ps=>absGg tt nb0 ops o rest st sh ps (absGo ops rest) o.guard
end
section
variable {tt:TypeId→Option TyI} {nb0:Nat} {o:Oper} {rest:List Oper} {st:St} {sh:List Sh} {ps:List Prop} {go:St→List Sh→List Prop→Out} {ops:Array Oper}
theorem absRes_val {it:Item}:absRes o rest st sh ps go (.val it)=go (st.step o.dst it) (sh++ [⟨it.reads,it.eff.sh⟩]) ps:=rfl
theorem absRes_ok {pre:Prop} {it:Item}:absRes o rest st sh ps go (.ok pre it)=go (st.step o.dst it) (sh++ [⟨it.reads,it.eff.sh⟩]) (pre :: ps):=rfl
theorem absRes_call {f:FuncId} {xs:List AV}:absRes o rest st sh ps go (.call f xs)= .call ps f xs o.dst rest st sh:=rfl
theorem absRes_hand:absRes o rest st sh ps go .hand= .hand ps o rest st sh:=rfl
theorem absRes_bad:absRes o rest st sh ps go .bad= .bad:=rfl
theorem absGg_none:absGg tt nb0 ops o rest st sh ps go none=absOne tt nb0 o rest st sh ps go:=rfl
theorem absGg_some {j:Nat} {want:Bool}:absGg tt nb0 ops o rest st sh ps go (some (j,want))=absGn o rest st sh ps want go (nthO ops.toList j):=rfl
theorem absGn_some {want:Bool} {d:Nat}:absGn o rest st sh ps want go (some d)=absGd o rest st sh ps want d go (st.t d):=rfl
theorem absGd_b {want b:Bool} {d:Nat}:absGd o rest st sh ps want d go (.one (.v (.bool b)))= .guard ps b want d o rest st sh:=rfl
theorem absGd_u {want:Bool} {d:Nat}:absGd o rest st sh ps want d go (.tup [])=go (st.put o.dst (.tup [])) (sh++ [⟨[],none⟩]) ps:=rfl
end
section
variable (P:Program) (G:World→Prop) (nb0:Nat) (ops:Array Oper)
def St.after (st:St) (d:Done):St:=match d.it with
  | some it=>st.step d.dst it
  | none=>st.put d.dst (.tup [])
def Trace:List Oper→St→List Done→Prop
  | [],_,ds=>ds= []
  | o :: rest, st, ds => ∃ d ds', ds = d :: ds' ∧ d.dst = o.dst ∧
    (∀it,d.it=some it→wantedA ops o st.t true∧StepSound P G o (evAt st.t) st.h it∧(∀id bx,it.eff= .new id bx→id=st.nb)∧(∀id bx,it.eff= .set id bx→nb0≤id))∧
    ((d.it=none→wantedA ops o st.t false)∧∀x,o.guard=none→o.op= .move x∨o.op= .assign x→d.it=some { val:=evAt st.t x })∧Trace rest (st.after d) ds'
def Done.sh (d:Done):Sh:=⟨d.reads,d.eff.sh⟩
def RunK (H:Oper→List Oper→St→List Sh→Prop) (rest:List Oper) (st:St) (sh:List Sh) (K:St→List Sh→Prop):Prop:=
  ∃pre post ds,rest=pre++post∧Trace P G nb0 ops pre st ds∧((post= []∧K (ds.foldl St.after st) (sh++ds.map Done.sh))∨
    ∃o r,post=o :: r∧wantedA ops o (ds.foldl St.after st).t true∧H o r (ds.foldl St.after st) (sh++ds.map Done.sh))
def OneK (H:Oper→List Oper→St→List Sh→Prop) (o:Oper) (rest:List Oper) (st:St) (sh:List Sh) (K:St→List Sh→Prop):Prop:=
  (∃it,(Good P G nb0 o (evAt st.t) st.h st.nb it∧∀x,o.op= .move x∨o.op= .assign x→it={ val:=evAt st.t x })∧RunK P G nb0 ops H rest (st.step o.dst it) (sh++ [⟨it.reads,it.eff.sh⟩]) K)∨H o rest st sh
def OutK (H:Oper→List Oper→St→List Sh→Prop) (out:Out) (K:St→List Sh→Prop):Prop:=match out with
  | .done ps st sh=>AllP ps∧K st sh
  | .call ps f xs dst rest st sh => AllP ps ∧ ((∃ it : Item, (∀ o, CallsTo P o (evAt st.t) f xs → Good P G nb0 o (evAt st.t) st.h st.nb it) ∧ RunK P G nb0 ops H rest (st.step dst it) (sh ++ [⟨it.reads, it.eff.sh⟩]) K) ∨
    ∀o:Oper,o.dst=dst→CallsTo P o (evAt st.t) f xs→H o rest st sh)
  | .guard ps b want d o rest st sh=>AllP ps∧(st.t d= .one (.v (.bool b))→(b=want→OneK P G nb0 ops H o rest st sh K)∧(b= !want→RunK P G nb0 ops H rest (st.put o.dst (.tup [])) (sh++ [⟨[],none⟩]) K))
  | .hand ps o rest st sh=>AllP ps∧OneK P G nb0 ops H o rest st sh K
  | .bad=>False
end
def Is {α:Type} (x y:α):Prop:=x=y
theorem Is.refl {α:Type} (x:α):Is x x:=rfl
theorem outK_is {P:Program} {G:World→Prop} {nb0:Nat} {ops:Array Oper} {H:Oper→List Oper→St→List Sh→Prop} {out out':Out} {K:St→List Sh→Prop} (e:Is out out') (h:OutK P G nb0 ops H out' K):OutK P G nb0 ops H out K:=by
  have e:out=out':=e
  rw [e];exact h
theorem upd_same {t:Nat→AV} {d:Nat} {x:AV} (h:t d=x):upd t d x=t:=by
  funext n;rw [upd_eq];split
  · rename_i e;subst e;exact h.symm
  · rfl
section
variable {P:Program} {G:World→Prop} {nb0:Nat} {ops:Array Oper} {tt:TypeId→Option TyI} {H:Oper→List Oper→St→List Sh→Prop}
theorem one_sound (htt:TtOk P tt) {o:Oper} {rest:List Oper} {st:St} {sh:List Sh} {ps:List Prop} {K:St→List Sh→Prop}
    (ih:∀st sh ps,OutK P G nb0 ops H (absGo tt nb0 ops rest st sh ps) K→AllP ps∧RunK P G nb0 ops H rest st sh K)
    (h:OutK P G nb0 ops H (absOne tt nb0 o rest st sh ps (absGo tt nb0 ops rest)) K):AllP ps∧OneK P G nb0 ops H o rest st sh K:=by
  have hs:=absOp_sound (P:=P) (G:=G) htt (nb0:=nb0) o (evAt st.t) st.h st.nb
  have hmv:∀x,o.op= .move x∨o.op= .assign x→absOp tt nb0 o (evAt st.t) st.h st.nb= .val { val:=evAt st.t x }:=fun x hx=>by
    unfold absOp
    rcases hx with hx|hx <;> rw [hx]
  unfold absOne at h
  generalize e:absOp tt nb0 o (evAt st.t) st.h st.nb=re at h hs
  cases re with
  | val it =>
    obtain ⟨h1,h2⟩:=ih _ _ _ h
    exact ⟨h1,.inl ⟨it,⟨hs,fun x hx=>by rw [hmv x hx] at e;cases e;rfl⟩,h2⟩⟩
  | ok pre it =>
    obtain ⟨h1,h2⟩:=ih _ _ _ h
    exact ⟨h1.2,.inl ⟨it,⟨hs h1.1,fun x hx=>by rw [hmv x hx] at e;cases e⟩,h2⟩⟩
  | call f xs =>
    obtain ⟨h0,⟨it,h1,h3⟩|h⟩:=h
    · exact ⟨h0,.inl ⟨it,⟨h1 _ hs,fun x hx=>by rw [hmv x hx] at e;cases e⟩,h3⟩⟩
    · exact ⟨h0,.inr (h _ rfl hs)⟩
  | hand=>exact h
  | bad=>exact h.elim
theorem RunK_one {o:Oper} {rest:List Oper} {st:St} {sh:List Sh} {K:St→List Sh→Prop} (hw:wantedA ops o st.t true) (h:OneK P G nb0 ops H o rest st sh K):RunK P G nb0 ops H (o :: rest) st sh K:=by
  rcases h with ⟨it,⟨h1,hmv⟩,pre,post,ds,rfl,h5,h6⟩|h
  · refine ⟨o :: pre,post,⟨o.dst,some it⟩:: ds,rfl,⟨_,_,rfl,rfl,fun it' e=>?_,⟨(fun e=>(by cases e)),fun x _ hx=>by rw [hmv x hx]⟩,h5⟩,?_⟩
    · cases e;exact ⟨hw,h1.sound,h1.new,h1.set⟩
    · simpa [Done.sh,Done.reads,Done.eff,St.after] using h6
  · exact ⟨[],o :: rest,[],rfl,rfl,.inr ⟨o,rest,rfl,hw,by simpa using h⟩⟩
theorem RunK_skip {o:Oper} {rest:List Oper} {st:St} {sh:List Sh} {K:St→List Sh→Prop} (hgd:o.guard≠none) (hw:wantedA ops o st.t false) (h:RunK P G nb0 ops H rest (st.put o.dst (.tup [])) (sh++ [⟨[],none⟩]) K):RunK P G nb0 ops H (o :: rest) st sh K:=by
  obtain ⟨pre,post,ds,rfl,h5,h6⟩:=h
  refine ⟨o :: pre,post,⟨o.dst,none⟩:: ds,rfl,⟨_,_,rfl,rfl,(fun it' e=>(by cases e)),⟨fun _=>hw,fun _ h=>absurd h hgd⟩,h5⟩,?_⟩
  simpa [Done.sh,Done.reads,Done.eff,St.after,Eff.sh] using h6
theorem absGo_sound (htt:TtOk P tt) {K:St→List Sh→Prop}:∀(rest:List Oper) (st:St) (sh:List Sh) (ps:List Prop),OutK P G nb0 ops H (absGo tt nb0 ops rest st sh ps) K→AllP ps∧RunK P G nb0 ops H rest st sh K
  | [],st,sh,ps,h=>⟨h.1,[],[],[],rfl,rfl,.inl ⟨rfl,by simpa [absGo] using h.2⟩⟩
  | o :: rest, st, sh, ps, h => by
    unfold absGo at h
    unfold absGg at h
    split at h
    · rename_i hg
      obtain ⟨h1,h2⟩:=one_sound htt (absGo_sound htt rest) h
      exact ⟨h1,RunK_one (by simp [wantedA,hg]) h2⟩
    · rename_i j want hg
      unfold absGn at h
      split at h
      · rename_i d hd
        rw [nthO_eq,Array.getElem?_toList] at hd
        unfold absGd at h
        split at h
        · rename_i b hb
          obtain ⟨h0,hyn⟩:=h
          obtain ⟨hy,hn⟩:=hyn hb
          refine ⟨h0,?_⟩
          by_cases e:b=want
          · subst e
            have h:=hy rfl
            exact RunK_one (by simp only [wantedA,hg];exact ⟨d,b,hd,.inl ⟨hb,by simp⟩⟩) h
          · have e':b= !want:=by cases b <;> cases want <;> simp_all
            subst e'
            have h:=hn rfl
            exact RunK_skip (by rw [hg];simp) (by simp only [wantedA,hg];exact ⟨d,_,hd,.inl ⟨hb,by cases want <;> rfl⟩⟩) h
        · rename_i hu
          obtain ⟨h0,h⟩:=absGo_sound htt rest _ _ _ h
          exact ⟨h0,RunK_skip (by rw [hg];simp) (by simp only [wantedA,hg];exact ⟨d,false,hd,.inr ⟨hu,by simp⟩⟩) h⟩
        · exact h.elim
      · exact h.elim
variable {K:St→List Sh→Prop} {ps:List Prop} {rest:List Oper} {st:St} {sh:List Sh}
theorem outK_done (hp:AllP ps) (h:K st sh):OutK P G nb0 ops H (.done ps st sh) K:=⟨hp,h⟩
theorem outK_call {f:FuncId} {xs ys:List AV} {r:AV} {dst:Option Tmp} (htt:TtOk P tt) (hc:Pure P G f ys r) (hs:SubL xs ys) (hp:AllP ps) (h:OutK P G nb0 ops H (absGo tt nb0 ops rest (st.step dst { val:=r }) (sh++ [⟨[],none⟩]) []) K):OutK P G nb0 ops H (.call ps f xs dst rest st sh) K:=
  ⟨hp,.inl ⟨{ val:=r },fun o ho=>good_none (step_call hc ho hs st.h) rfl,(absGo_sound htt _ _ _ _ h).2⟩⟩
theorem outK_yes {o:Oper} {b want:Bool} {d:Nat} (htt:TtOk P tt) (e:b=want) (hp:AllP ps) (h:OutK P G nb0 ops H (absOne tt nb0 o rest st sh [] (absGo tt nb0 ops rest)) K):OutK P G nb0 ops H (.guard ps b want d o rest st sh) K:=
  ⟨hp,fun _=>⟨fun _=>(one_sound htt (absGo_sound htt rest) h).2,fun e'=>by rw [e] at e';cases want <;> cases e'⟩⟩
theorem outK_no {o:Oper} {b want:Bool} {d:Nat} (htt:TtOk P tt) (e:(!want)=b) (hp:AllP ps) (h:OutK P G nb0 ops H (absGo tt nb0 ops rest (st.put o.dst (.tup [])) (sh++ [⟨[],none⟩]) []) K):OutK P G nb0 ops H (.guard ps b want d o rest st sh) K:=
  ⟨hp,fun _=>⟨(fun e'=>by rw [←e] at e';cases want <;> cases e'),fun _=>(absGo_sound htt _ _ _ _ h).2⟩⟩
theorem outK_tt {o:Oper} {d:Nat} (htt:TtOk P tt) (hp:AllP ps) (h:OutK P G nb0 ops H (absOne tt nb0 o rest st sh [] (absGo tt nb0 ops rest)) K):OutK P G nb0 ops H (.guard ps true true d o rest st sh) K:=outK_yes htt rfl hp h
theorem outK_ff {o:Oper} {d:Nat} (htt:TtOk P tt) (hp:AllP ps) (h:OutK P G nb0 ops H (absOne tt nb0 o rest st sh [] (absGo tt nb0 ops rest)) K):OutK P G nb0 ops H (.guard ps false false d o rest st sh) K:=outK_yes htt rfl hp h
theorem outK_tf {o:Oper} {d:Nat} (htt:TtOk P tt) (hp:AllP ps) (h:OutK P G nb0 ops H (absGo tt nb0 ops rest (st.put o.dst (.tup [])) (sh++ [⟨[],none⟩]) []) K):OutK P G nb0 ops H (.guard ps true false d o rest st sh) K:=outK_no htt rfl hp h
theorem outK_ft {o:Oper} {d:Nat} (htt:TtOk P tt) (hp:AllP ps) (h:OutK P G nb0 ops H (absGo tt nb0 ops rest (st.put o.dst (.tup [])) (sh++ [⟨[],none⟩]) []) K):OutK P G nb0 ops H (.guard ps false true d o rest st sh) K:=outK_no htt rfl hp h
theorem outK_if {o:Oper} {b want:Bool} {d:Nat} (htt:TtOk P tt) (hp:AllP ps) (hy:b=want→OutK P G nb0 ops H (absOne tt nb0 o rest { st with t:=upd st.t d (.one (.v (.bool want))) } sh [] (absGo tt nb0 ops rest)) K)
    (hn:b= !want→OutK P G nb0 ops H (absGo tt nb0 ops rest (({ st with t:=upd st.t d (.one (.v (.bool (!want)))) }:St).put o.dst (.tup [])) (sh++ [⟨[],none⟩]) []) K):OutK P G nb0 ops H (.guard ps b want d o rest st sh) K:=
  ⟨hp,fun hb=>⟨(fun e=>by
    have:=hy e
    rw [upd_same (by rw [hb,e])] at this
    exact (one_sound htt (absGo_sound htt rest) this).2),(fun e=>by
    have:=hn e
    rw [upd_same (by rw [hb,e])] at this
    exact (absGo_sound htt _ _ _ _ this).2)⟩⟩
theorem outK_ift {o:Oper} {b:Bool} {d:Nat} (htt:TtOk P tt) (hp:AllP ps) (hy:b=true→OutK P G nb0 ops H (absOne tt nb0 o rest { st with t:=upd st.t d (.one (.v (.bool true))) } sh [] (absGo tt nb0 ops rest)) K)
    (hn:b=false→OutK P G nb0 ops H (absGo tt nb0 ops rest (({ st with t:=upd st.t d (.one (.v (.bool false))) }:St).put o.dst (.tup [])) (sh++ [⟨[],none⟩]) []) K):OutK P G nb0 ops H (.guard ps b true d o rest st sh) K:=outK_if htt hp hy hn
theorem outK_iff {o:Oper} {b:Bool} {d:Nat} (htt:TtOk P tt) (hp:AllP ps) (hy:b=false→OutK P G nb0 ops H (absOne tt nb0 o rest { st with t:=upd st.t d (.one (.v (.bool false))) } sh [] (absGo tt nb0 ops rest)) K)
    (hn:b=true→OutK P G nb0 ops H (absGo tt nb0 ops rest (({ st with t:=upd st.t d (.one (.v (.bool true))) }:St).put o.dst (.tup [])) (sh++ [⟨[],none⟩]) []) K):OutK P G nb0 ops H (.guard ps b false d o rest st sh) K:=outK_if htt hp hy hn
theorem outK_ift_dec {o:Oper} {p:Prop} [Decidable p] {d:Nat} (htt:TtOk P tt) (hp:AllP ps) (hy:p→OutK P G nb0 ops H (absOne tt nb0 o rest { st with t:=upd st.t d (.one (.v (.bool true))) } sh [] (absGo tt nb0 ops rest)) K)
    (hn:¬p→OutK P G nb0 ops H (absGo tt nb0 ops rest (({ st with t:=upd st.t d (.one (.v (.bool false))) }:St).put o.dst (.tup [])) (sh++ [⟨[],none⟩]) []) K):OutK P G nb0 ops H (.guard ps (decide p) true d o rest st sh) K:=outK_ift htt hp (fun h=>hy (of_decide_eq_true h)) (fun h=>hn (of_decide_eq_false h))
theorem outK_ift_beq {o:Oper} {x y:Int} {d:Nat} (htt:TtOk P tt) (hp:AllP ps) (hy:x=y→OutK P G nb0 ops H (absOne tt nb0 o rest { st with t:=upd st.t d (.one (.v (.bool true))) } sh [] (absGo tt nb0 ops rest)) K)
    (hn:¬x=y→OutK P G nb0 ops H (absGo tt nb0 ops rest (({ st with t:=upd st.t d (.one (.v (.bool false))) }:St).put o.dst (.tup [])) (sh++ [⟨[],none⟩]) []) K):OutK P G nb0 ops H (.guard ps (x == y) true d o rest st sh) K:=outK_ift htt hp (fun h=>hy (eq_of_beq h)) (fun h=>hn (ne_of_beq_false h))
theorem outK_ift_bne {o:Oper} {x y:Int} {d:Nat} (htt:TtOk P tt) (hp:AllP ps) (hy:¬x=y→OutK P G nb0 ops H (absOne tt nb0 o rest { st with t:=upd st.t d (.one (.v (.bool true))) } sh [] (absGo tt nb0 ops rest)) K)
    (hn:x=y→OutK P G nb0 ops H (absGo tt nb0 ops rest (({ st with t:=upd st.t d (.one (.v (.bool false))) }:St).put o.dst (.tup [])) (sh++ [⟨[],none⟩]) []) K):OutK P G nb0 ops H (.guard ps (x != y) true d o rest st sh) K:=outK_ift htt hp (fun h=>hy ((fun h=>by simpa using h) h)) (fun h=>hn ((fun h=>by simpa using h) h))
theorem outK_iff_dec {o:Oper} {p:Prop} [Decidable p] {d:Nat} (htt:TtOk P tt) (hp:AllP ps) (hy:¬p→OutK P G nb0 ops H (absOne tt nb0 o rest { st with t:=upd st.t d (.one (.v (.bool false))) } sh [] (absGo tt nb0 ops rest)) K)
    (hn:p→OutK P G nb0 ops H (absGo tt nb0 ops rest (({ st with t:=upd st.t d (.one (.v (.bool true))) }:St).put o.dst (.tup [])) (sh++ [⟨[],none⟩]) []) K):OutK P G nb0 ops H (.guard ps (decide p) false d o rest st sh) K:=outK_iff htt hp (fun h=>hy (of_decide_eq_false h)) (fun h=>hn (of_decide_eq_true h))
theorem outK_iff_beq {o:Oper} {x y:Int} {d:Nat} (htt:TtOk P tt) (hp:AllP ps) (hy:¬x=y→OutK P G nb0 ops H (absOne tt nb0 o rest { st with t:=upd st.t d (.one (.v (.bool false))) } sh [] (absGo tt nb0 ops rest)) K)
    (hn:x=y→OutK P G nb0 ops H (absGo tt nb0 ops rest (({ st with t:=upd st.t d (.one (.v (.bool true))) }:St).put o.dst (.tup [])) (sh++ [⟨[],none⟩]) []) K):OutK P G nb0 ops H (.guard ps (x == y) false d o rest st sh) K:=outK_iff htt hp (fun h=>hy (ne_of_beq_false h)) (fun h=>hn (eq_of_beq h))
theorem outK_iff_bne {o:Oper} {x y:Int} {d:Nat} (htt:TtOk P tt) (hp:AllP ps) (hy:x=y→OutK P G nb0 ops H (absOne tt nb0 o rest { st with t:=upd st.t d (.one (.v (.bool false))) } sh [] (absGo tt nb0 ops rest)) K)
    (hn:¬x=y→OutK P G nb0 ops H (absGo tt nb0 ops rest (({ st with t:=upd st.t d (.one (.v (.bool true))) }:St).put o.dst (.tup [])) (sh++ [⟨[],none⟩]) []) K):OutK P G nb0 ops H (.guard ps (x != y) false d o rest st sh) K:=outK_iff htt hp (fun h=>hy ((fun h=>by simpa using h) h)) (fun h=>hn ((fun h=>by simpa using h) h))
theorem outK_other {o:Oper} (hp:AllP ps) (h:H o rest st sh):OutK P G nb0 ops H (.hand ps o rest st sh) K:=⟨hp,.inr h⟩
end
-- axioms of absGo_sound
end Go.Ax
end
