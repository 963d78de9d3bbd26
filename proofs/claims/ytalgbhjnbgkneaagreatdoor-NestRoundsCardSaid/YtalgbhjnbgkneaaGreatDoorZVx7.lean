/- Lemmas on the program and its library, part Vx7. -/
import Derived.Test.YtalgbhjnbgkneaaGreatDoorZVx4
set_option linter.unusedVariables false
set_option linter.unusedSimpArgs false
section
namespace Go.Vx
open Go.Ax
open Go.RowKit (Below)
section
variable {P:Program} {w0:World} {ng:Nat}
theorem rs_u1 {ρ:Nat→Ph}:∀(vs:List Value),(∀c∈vs,c.oneCell'=true)→Rs ρ (List.replicate vs.length .u1) vs
  | [],_=>rfl
  | v :: vs,h=>⟨v,vs,rfl,h v (by simp),rs_u1 vs fun c hc=>h c (by simp [hc])⟩
theorem stepV_buildSlice {o:Oper} {T:TypeId} {len:Nat} {parts:Array (Nat×Operand)} (ho:o.op= .buildSlice T len parts) {ev:Operand→VV} (h:Nat→Option Blk) {ti te:TyI} (ht:tyI P T=some ti) {e sz:Nat} (hk:ti.kind= .slice e sz) (hsz:0 < sz)
    (hte:tyI P e=some te) {zs:List Value} (hz:te.zero=some zs) (h1:zs.all (·.oneCell')=true) (hzl:zs.length=sz) {ls:List VV} (hls:buildV (fun i=>some (i*sz,sz)) ev parts.toList (List.replicate (len*sz) .u1)=some ls) (hmax:len*sz≤16777216) {nb:Nat} (hng:ng≤nb) :
    StepV P w0 ng o ev h nb (nb+1) (.sl nb 0 sz len len) (setB h nb (some (.cells ls))) (fun b=>b=nb):=by
  intro n' ro ρ w a K Q hw hops hf hK
  have hnb:=hf nb (Nat.le_refl _) (Nat.lt_succ_self _)
  obtain ⟨hu,hc⟩:=tyI_slice ht hk
  obtain ⟨ie,z,hie,hsize,hib,hzv,hzc⟩:=elem_zero hte hc hsz hz
  have hzr:(zeroValue e).run P w= .ok z w:=by simp [zeroValue,typeInfo,hie,hzv]
  have hd:∀c,o.op≠.defer c:=fun c hc=>by rw [ho] at hc;cases hc
  have hops':∀p∈parts.toList,(ev p.2).R ρ (a.eval p.2):=fun p hp=>hops p.2 (by rw [ho];simp only [Op.operands];simp only [List.mem_toArray,List.mem_map];exact ⟨p,hp,rfl⟩)
  have e1:(parts.map fun x=>(x.1,a.eval x.2)).toList=parts.toList.map fun p=>(p.1,a.eval p.2):=by simp
  have hz1:∀v∈z.cells.toList,v.oneCell'=true:=fun v hv=>by rw [hzc] at hv;exact List.all_eq_true.1 h1 v hv
  have hzs:z.cells.size=sz:=by rw [←hzl,←hzc];simp
  have hfill:∀z':Array Value,(len*sz≠0→z'=z.cells)→∃cells',Instr.fill (fun i=>some (i*sz,sz)) ((Array.range (len*sz)).map (z'[·%z'.size]!)) (parts.toList.map fun p=>(p.1,a.eval p.2))=some cells'∧Rs ρ ls cells'.toList∧cells'.size=len*sz∧∀c∈cells'.toList,c.oneCell'=true:=by
    intro z' hz'
    have hall:∀c∈((Array.range (len*sz)).map (z'[·%z'.size]!)).toList,c.oneCell'=true:=by
      intro c hcm
      rw [Array.toList_map] at hcm
      obtain ⟨i,hi,rfl⟩:=List.mem_map.1 hcm
      have hi:i < len*sz:=by simpa using hi
      have:z'=z.cells:=hz' (by omega)
      subst this
      have hlt:i%z.cells.size < z.cells.size:=Nat.mod_lt _ (by omega)
      show (z.cells[i%z.cells.size]!).oneCell'=true
      rw [getElem!_pos z.cells _ hlt]
      exact hz1 _ (by simp)
    have hb:=rs_u1 (ρ:=ρ) _ hall
    rw [show ((Array.range (len*sz)).map (z'[·%z'.size]!)).toList.length=len*sz by simp] at hb
    obtain ⟨cells',h3,h4,h5,h6⟩:=fillV (a:=a) parts.toList _ _ hb hall hops' hls
    exact ⟨cells',h3,h4,by rw [h5];simp,h6⟩
  obtain ⟨cells',h3,h4,h5,h6⟩:∃cells',(execOp a.eval o).run P w= .ok (.value (.slice (some ⟨w.heap.size,0,none⟩) len len)) (w.alloc (.cells cells' e))∧Rs ρ ls cells'.toList∧cells'.size=len*sz∧∀c∈cells'.toList,c.oneCell'=true:=by
    by_cases h0:len*sz=0
    · obtain ⟨cells',h3,h4⟩:=hfill #[] (fun h=>absurd h0 h)
      refine ⟨cells',?_,h4⟩
      unfold execOp;rw [ho];dsimp only
      simp only [Instr.buildSlice,Sem.run_bind,run_underlying hu,Result.andThen_ok,sizeOf_run hc hsz]
      have hm:¬((0:Nat) > 2 ^ 24):=by decide
      rw [h0] at h3
      simp only [h0,hm,if_false,if_true,Sem.run_bind,Sem.run_pure,Result.andThen_ok,e1,h3,newRow,newObj]
      rfl
    · obtain ⟨cells',h3,h4⟩:=hfill z.cells (fun _=>rfl)
      refine ⟨cells',?_,h4⟩
      unfold execOp;rw [ho];dsimp only
      simp only [Instr.buildSlice,Sem.run_bind,run_underlying hu,Result.andThen_ok,sizeOf_run hc hsz]
      have hm:¬(len*sz > 2 ^ 24):=by omega
      simp only [hm,if_false,h0,hzr,Sem.run_bind,Sem.run_pure,Result.andThen_ok,e1,h3,newRow,newObj]
      rfl
  have hl:=h4.len
  obtain ⟨t1,t2⟩:=wr_new hw hnb hng (below_alloc w (.cells cells' e)) (heap_alloc_lt _ _) (z:=.cells ls) (s:=len*sz) (by
    refine ⟨_,e,heap_alloc_last _ _,h5,by rw [←hl,Array.length_toList,h5];exact Nat.le_refl _,fun j x hj=>?_⟩
    obtain ⟨v,f1,f2⟩:=h4.get hj
    exact ⟨v,by simpa using f1,f2.ext (ext_new hnb),h6 v (List.mem_of_getElem? f1)⟩)
  refine wpIn_val hd h3 (hK _ _ _ ⟨rfl,?_⟩ t1 t2)
  simp only [setP,if_true]
  exact ⟨len,Nat.le_refl _,Nat.le_refl _,by omega,rfl⟩
theorem stepV_sliceArr {o:Oper} {T:TypeId} {x:Operand} {lo hi:Option Operand} (ho:o.op= .slice T x lo hi none) {ev:Operand→VV} {b off:Nat} (hx:ev x= .p b off) {H:Nat→Option Blk} {cs:List VV} (hb:H b=some (.cells cs)) {ti:TyI} (ht:tyI P T=some ti) {m e sz:Nat} (hk:ti.kind= .array m e sz) (hs:0 < sz) (hle:off+m*sz≤cs.length)
    {l h:Option Int} (hl:optI ev lo=some l) (hh:optI ev hi=some h) (h0:0≤l.getD 0) (h1:l.getD 0≤h.getD m) (h2:h.getD m≤m) (h3:l.getD 0=0∨l.getD 0 < m) (nb:Nat) :
    StepV P w0 ng o ev H nb nb (.sl b (off+(l.getD 0).toNat*sz) sz ((h.getD m).toNat - (l.getD 0).toNat) (m - (l.getD 0).toNat)) H (fun _=>False):=by
  refine stepV_val (fun c hc=>by rw [ho] at hc;cases hc) fun ρ w ac hw hops=>?_
  have g1:=hops x (by rw [ho];simp [Op.operands])
  obtain ⟨k,s,q1,q2⟩:=hw.blk b _ hb
  obtain ⟨c,Tb,_,d2,d3,_⟩:=q2
  rw [hx] at g1
  obtain ⟨_,g1⟩:=g1
  rw [q1] at g1
  dsimp only at g1
  obtain ⟨hu,hc⟩:=tyI_array ht hk
  have hbd:(Instr.sliceBounds false m m (lo.map ac.eval) (hi.map ac.eval) none).run P w= .ok ((l.getD 0).toNat,(h.getD m).toNat,m) w:=
    run_boundsV (P:=P) hl hh (w:=w) (a:=ac) (fun y hy=>hops y (by rw [ho];subst hy;simp [Op.operands])) (fun y hy=>hops y (by rw [ho];subst hy;simp [Op.operands])) h0 h1 h2
  refine ⟨.slice (some ⟨k,off+(l.getD 0).toNat*sz,none⟩) ((h.getD m).toNat - (l.getD 0).toNat) (m - (l.getD 0).toNat),?_,rfl,?_⟩
  · unfold execOp;rw [ho];dsimp only
    rw [g1]
    simp only [Instr.sliceAt,run_underlying hu,Sem.run_bind,Option.map_none,Instr.sureAddr,Sem.run_pure,Result.andThen_ok,hbd,sizeOf_run hc hs,Addr.add_mid]
    rcases h3 with h3|h3
    · rw [h3];simp
    · have:m≠(l.getD 0).toNat:=by omega
      simp only [if_neg this]
  · rw [q1]
    refine ⟨m - (l.getD 0).toNat,Nat.le_refl _,by omega,?_,rfl⟩
    have:(l.getD 0).toNat≤m:=by omega
    have:(l.getD 0).toNat*sz≤m*sz:=Nat.mul_le_mul_right _ this
    rw [Nat.sub_mul];omega
theorem stepV_slNil {o:Oper} {op:BinOp} {T T':TypeId} {x y:Operand} (ho:o.op= .binOp op T x y T') {ev:Operand→VV} {b off sz n c:Nat} (hx:ev x= .sl b off sz n c) {h:Nat→Option Blk} {z:Blk} (hb:h b=some z) (hy:ev y= .s (.slice none 0 0))
    {ti:TyI} (ht:tyI P T=some ti) {e s:Nat} (hk:ti.kind= .slice e s) {r:Bool} (hr:op= .eql∧r=false∨op= .neq∧r=true) (nb:Nat):StepV P w0 ng o ev h nb nb (.s (.bool r)) h (fun _=>False):=by
  refine stepV_val (fun c hc=>by rw [ho] at hc;cases hc) fun ρ w ac hw hops=>⟨.bool r,?_,rfl,rfl⟩
  have h1:=hops x (by rw [ho];simp [Op.operands])
  have h2:=hops y (by rw [ho];simp [Op.operands])
  obtain ⟨k,s',q1,_⟩:=hw.blk b _ hb
  rw [hx] at h1;rw [hy] at h2
  obtain ⟨_,h1⟩:=h1
  rw [q1] at h1
  obtain ⟨C,_,_,_,h1⟩:=h1
  obtain ⟨h2,_⟩:=h2
  unfold execOp;rw [ho];dsimp only
  rw [h1,h2]
  rcases hr with ⟨rfl,rfl⟩|⟨rfl,rfl⟩<;>
    simp only [run_eqGuard (P:=P) (a:=.slice (some ⟨k,off,none⟩) n C) rfl (by simp),Sem.run_bind,Result.andThen_ok,run_eqlN (tyI_slice ht hk).1,run_neqN (tyI_slice ht hk).1,Sem.run_pure,Option.isNone_some,Bool.not_false]
def valsV:List VV→Option (List Value)
  | []=>some []
  | .s v :: r => match valsV r with
    | some vs=>some (v :: vs)
    | none=>none
  | _ :: _=>none
theorem valsV_R {ρ:Nat→Ph}:∀{ls:List VV} {vs cs:List Value},valsV ls=some vs→Rs ρ ls cs→cs=vs
  | [],vs,cs,h,hr=>by cases h;exact hr
  | x :: r, vs, cs, h, hr => by
    obtain ⟨v,cs',rfl,h1,h2⟩:=hr
    unfold valsV at h
    split at h
    · rename_i he;cases he
    · rename_i v' r' he
      cases he
      split at h
      · rename_i vs' hv
        cases h
        rw [h1.1,valsV_R hv h2]
      · cases h
    · cases h
theorem stepV_eqAgg {o:Oper} {op:BinOp} {T T':TypeId} {x y:Operand} (ho:o.op= .binOp op T x y T') {ev:Operand→VV} {xs ys:List VV} (hx:ev x= .agg xs) (hy:ev y= .agg ys) (h:Nat→Option Blk)
    {ti:TyI} (ht:tyI P T=some ti) {ks:List TyK} (hf:ti.flat=some ks) (hag:ti.agg=true) {vs us:List Value} (hv:valsV xs=some vs) (hu:valsV ys=some us) (h1:ksOk ks vs=true) (h2:ksOk ks us=true) {r:Bool} (hr:op= .eql∧r=eqVs vs us∨op= .neq∧r= !eqVs vs us) (nb:Nat) :
    StepV P w0 ng o ev h nb nb (.s (.bool r)) h (fun _=>False):=by
  obtain ⟨hg,hfl⟩:=tyI_flat ht hf
  obtain ⟨i,d,hi,hd,_,_,hda,_⟩:=tyI_spec ht
  refine stepV_val (fun c hc=>by rw [ho] at hc;cases hc) fun ρ w ac hw hops=>⟨.bool r,?_,rfl,rfl⟩
  have g1:=hops x (by rw [ho];simp [Op.operands])
  have g2:=hops y (by rw [ho];simp [Op.operands])
  rw [hx] at g1;rw [hy] at g2
  obtain ⟨cs,e1,l1,_⟩:=g1
  obtain ⟨ds,e2,l2,_⟩:=g2
  rw [valsV_R hv l1] at e1
  rw [valsV_R hu l2] at e2
  have hE:=eqOk_flat 8 9992 T ks hfl w vs us h1 h2
  have hrow:((P.underlying T).map (·.isRow)).getD false=true:=by rw [hd];simpa using hda.trans hag
  simp only [mkV,hrow] at hE
  unfold execOp;rw [ho];dsimp only
  rw [e1,e2]
  simp only [Sem.run_bind,run_eqGuard_agg w op T x y _ _ hg,Result.andThen_ok]
  rcases hr with ⟨rfl,rfl⟩|⟨rfl,rfl⟩
  · rw [run_eql_struct,hE];rfl
  · rw [run_neq_struct,hE];rfl
theorem stepV_copy {o:Oper} {x y:Operand} {T:TypeId} {ats:Array TypeId} (ho:o.op= .call { callee:=.builtin .copy,args:=#[x,y],argTypes:=ats }) (hT:ats[0]?=some T) {ev:Operand→VV} {h:Nat→Option Blk} {ti:TyI} (ht:tyI P T=some ti) {e sz:Nat} (hk:ti.kind= .slice e sz) (hsz:0 < sz)
    {b off n c:Nat} (hx:ev x= .sl b off sz n c) (hgb:ng≤b) {cs:List VV} (hb:h b=some (.cells cs)) {m:Nat} {ys:List VV} (hy:∃b2 o2 c2,ev y= .sl b2 o2 sz m c2∧loadC h b2 o2 (Nat.min m n*sz)=some ys) (hle:off+Nat.min m n*sz≤cs.length) (nb:Nat) :
    StepV P w0 ng o ev h nb nb (.s (.int .i64 (Nat.min m n:Nat))) (setB h b (some (.cells (putL cs off ys)))) (fun c=>c=b):=by
  obtain ⟨b2,o2,c2,hy,hys⟩:=hy
  intro n' ro ρ w a K Q hw hops _ hK
  have hp:=hops x (by rw [ho];simp [Op.operands,Call.operands])
  have hq:=hops y (by rw [ho];simp [Op.operands,Call.operands])
  obtain ⟨k',s',news,q1,q2,q3,q4,q5⟩:=loadC_range hw hys
  obtain ⟨k,s,g1,hB⟩:=hw.blk b _ hb
  have hB':=hB
  obtain ⟨cur,Tb,d1,d2,d3,d4⟩:=hB'
  rw [hx] at hp;rw [hy] at hq
  obtain ⟨_,hp⟩:=hp
  obtain ⟨_,hq⟩:=hq
  rw [g1] at hp;rw [q1] at hq
  obtain ⟨C,_,_,_,hp⟩:=hp
  obtain ⟨C',_,_,_,hq⟩:=hq
  obtain ⟨hu,hc⟩:=tyI_slice ht hk
  have hly:=q4.len
  have hst:=run_storeCells_cells (P:=P) k off news 0 w (fun j hj=>by
    rw [cell_of_row w k _ cur Tb (0,0) d1]
    have:off+0+j < cur.size:=by omega
    rw [Array.getElem?_eq_getElem (by omega)];rfl) (fun j hj=>frozen_of_row w k _ cur Tb d1) q5
  simp only [Nat.add_zero] at hst
  have hfc:=run_firstCells_some (P:=P) w sz (Nat.min m n) ⟨k',o2,none⟩ m C' news (by rw [q2]) (fun j u hu=>by rw [Addr.add_mid];exact q3 j u hu)
  have hW:=wrote_setCells news w k off
  obtain ⟨t1,t2⟩:=wr_set hw g1 hgb hW (blk_put hB (by rw [←hly,q2];omega) q4 q5)
  refine wpIn_val (v:=goInt (Nat.min m n)) (fun c hc=>by rw [ho] at hc;cases hc) ?_ (hK _ ρ _ ⟨rfl,rfl⟩ t1 t2)
  unfold execOp;rw [ho]
  simp only [resolve,invoke,builtin,Builtin.copy_,List.map_toArray,List.map_cons,List.map_nil,hT,hp,hq,Sem.run_bind,Sem.run_pure,Result.andThen_ok,run_underlying hu,Builtin.lenOf,sizeOf_run hc hsz,hfc,List.getElem?_toArray,List.getElem?_cons_zero,List.getElem?_cons_succ,hst]
theorem flat_get {sz:Nat} {l:List VV} (hl:l.length=sz):∀(m i d:Nat),i < m→d < sz→((List.replicate m l).flatten)[i*sz+d]?=l[d]?
  | 0,i,d,h,_=>by omega
  | m + 1, i, d, hi, hd => by
    rw [List.replicate_succ,List.flatten_cons]
    cases i with
    | zero=>rw [Nat.zero_mul,Nat.zero_add,List.getElem?_append_left (by omega)]
    | succ i=>rw [List.getElem?_append_right (by rw [Nat.add_mul];omega),show (i+1)*sz+d - l.length=i*sz+d by rw [Nat.add_mul,hl];omega];exact flat_get hl m i d (by omega) hd
theorem rs_of_get {ρ:Nat→Ph}:∀{xs:List VV} {vs:List Value},xs.length=vs.length→(∀(j:Nat) (x:VV) (v:Value),xs[j]?=some x→vs[j]?=some v→x.R ρ v)→Rs ρ xs vs
  | [],[],_,_=>rfl
  | x :: xs,v :: vs,hl,h=>⟨v,vs,rfl,h 0 x v rfl rfl,rs_of_get (by simpa using hl) fun j y u h1 h2=>h (j+1) y u h1 h2⟩
  | [],_ :: _,hl,_=>by simp at hl
  | _ :: _,[],hl,_=>by simp at hl
theorem stepV_clear {o:Oper} {x:Operand} {T:TypeId} {ats:Array TypeId} (ho:o.op= .call { callee:=.builtin .clear,args:=#[x],argTypes:=ats }) (hT:ats[0]?=some T) {ev:Operand→VV} {h:Nat→Option Blk} {ti te:TyI} (ht:tyI P T=some ti) {e sz:Nat} (hk:ti.kind= .slice e sz) (hsz:0 < sz)
    (hte:tyI P e=some te) {zs:List Value} (hz:te.zero=some zs) (h1:zs.all (·.oneCell')=true) (hzl:zs.length=sz) {b off n c:Nat} (hx:ev x= .sl b off sz n c) (hgb:ng≤b) {cs:List VV} (hb:h b=some (.cells cs)) (hn:0 < n) (hle:off+n*sz≤cs.length) (nb:Nat) :
    StepV P w0 ng o ev h nb nb (.tup []) (setB h b (some (.cells (putL cs off ((List.replicate n (zs.map VV.s)).flatten))))) (fun c=>c=b):=by
  intro n' ro ρ w a K Q hw hops _ hK
  have hp:=hops x (by rw [ho];simp [Op.operands,Call.operands])
  obtain ⟨k,s,g1,hB⟩:=hw.blk b _ hb
  have hB':=hB
  obtain ⟨cur,Tb,d1,d2,d3,d4⟩:=hB'
  rw [hx] at hp
  obtain ⟨_,hp⟩:=hp
  rw [g1] at hp
  obtain ⟨C,_,_,_,hp⟩:=hp
  obtain ⟨hu,hc⟩:=tyI_slice ht hk
  obtain ⟨ie,z,hie,hsize,hib,hzv,hzc⟩:=elem_zero hte hc hsz hz
  have hzs:z.cells.size=sz:=by rw [←hzl,←hzc];simp
  have hzr:(zeroValue e).run P w= .ok z w:=by simp [zeroValue,typeInfo,hie,hzv]
  have hz1:∀v∈z.cells,v.oneCell'=true:=fun v hv=>by
    have:v∈zs:=by rw [←hzc];simpa using hv
    exact List.all_eq_true.1 h1 v this
  have hnews1:∀v∈(Builtin.zeroCells z.cells n).toList,v.oneCell'=true:=fun v hv=>zeroCells_one hz1 n v (by simpa using hv)
  have hnl:(Builtin.zeroCells z.cells n).toList.length=n*sz:=by rw [Array.length_toList,size_zeroCells,hzs]
  have hR:Rs ρ ((List.replicate n (zs.map VV.s)).flatten) (Builtin.zeroCells z.cells n).toList:=by
    refine rs_of_get (by rw [hnl];simp [hzl]) fun j y u hj hu=>?_
    have hjl:j < n*sz:=by have:=(List.getElem?_eq_some_iff.1 hu).1;omega
    have hjs:j%sz < sz:=Nat.mod_lt _ hsz
    have hjd:j / sz < n:=by rw [Nat.div_lt_iff_lt_mul hsz];exact hjl
    have hj0:j / sz*sz+j%sz=j:=by rw [Nat.mul_comm];exact Nat.div_add_mod j sz
    have:=flat_get (sz:=sz) (l:=zs.map VV.s) (by simp [hzl]) n (j / sz) (j%sz) hjd hjs
    rw [hj0] at this
    rw [this,List.getElem?_map] at hj
    have hlt:j%sz < zs.length:=by omega
    rw [List.getElem?_eq_getElem hlt] at hj
    cases hj
    have hu':u=zs[j%sz]:=by
      have e1:(Builtin.zeroCells z.cells n).toList[j]?=some zs[j%sz]:=by
        have hlt':j%sz < z.cells.size:=by omega
        have hjl':j < n*z.cells.size:=by rw [hzs];exact hjl
        have:z.cells[j%sz]=zs[j%sz]:=by
          have:=List.getElem_of_eq hzc (i:=j%sz) (by simpa using hlt')
          simpa using this
        rw [Array.getElem?_toList]
        unfold Builtin.zeroCells
        rw [Array.getElem?_map,Array.getElem?_range,if_pos hjl']
        simp only [Option.map_some,hzs]
        rw [getElem!_pos z.cells _ hlt',this]
      rw [e1] at hu;cases hu;rfl
    rw [hu']
    exact ⟨rfl,List.all_eq_true.1 h1 _ (List.getElem_mem hlt)⟩
  have hst:=run_storeCells_cells (P:=P) k off (Builtin.zeroCells z.cells n).toList 0 w (fun j hj=>by
    rw [cell_of_row w k _ cur Tb (0,0) d1]
    rw [Array.getElem?_eq_getElem (by omega)];rfl) (fun j hj=>frozen_of_row w k _ cur Tb d1) hnews1
  simp only [Nat.add_zero] at hst
  have hW:=wrote_setCells (Builtin.zeroCells z.cells n).toList w k off
  obtain ⟨t1,t2⟩:=wr_set hw g1 hgb hW (blk_put hB (by have:=hR.len;omega) hR hnews1)
  refine wpIn_val (v:=.tuple #[]) (fun c hc=>by rw [ho] at hc;cases hc) ?_ (hK _ ρ _ ⟨[],rfl,rfl⟩ t1 t2)
  unfold execOp;rw [ho]
  obtain ⟨m,rfl⟩:∃m,n=m+1:=⟨n - 1,by omega⟩
  simp only [resolve,invoke,builtin,Builtin.clear_,List.map_toArray,List.map_cons,List.map_nil,hT,hp,Sem.run_bind,Sem.run_pure,Result.andThen_ok,run_underlying hu,hzr,List.getElem?_toArray,List.getElem?_cons_zero,hst]
theorem stepV_clear0 {o:Oper} {x:Operand} {T:TypeId} {ats:Array TypeId} (ho:o.op= .call { callee:=.builtin .clear,args:=#[x],argTypes:=ats }) (hT:ats[0]?=some T) {ev:Operand→VV} {h:Nat→Option Blk} {ti:TyI} (ht:tyI P T=some ti) {e sz:Nat} (hk:ti.kind= .slice e sz)
    (hx:ev x= .s (.slice none 0 0)∨∃b off es c z,ev x= .sl b off es 0 c∧h b=some z) (nb:Nat):StepV P w0 ng o ev h nb nb (.tup []) h (fun _=>False):=by
  refine stepV_val (fun c hc=>by rw [ho] at hc;cases hc) fun ρ w a hw hops=>⟨.tuple #[],?_,[],rfl,rfl⟩
  have hp:=hops x (by rw [ho];simp [Op.operands,Call.operands])
  obtain ⟨hu,hc⟩:=tyI_slice ht hk
  rcases hx with hx|⟨b,off,es,c,z,hx,hb⟩
  · rw [hx] at hp
    unfold execOp;rw [ho]
    simp [resolve,invoke,builtin,Builtin.clear_,hT,hp.1,run_underlying hu]
  · obtain ⟨k,s,g1,_⟩:=hw.blk b _ hb
    rw [hx] at hp
    obtain ⟨_,hp⟩:=hp
    rw [g1] at hp
    obtain ⟨C,_,_,_,hp⟩:=hp
    unfold execOp;rw [ho]
    simp [resolve,invoke,builtin,Builtin.clear_,hT,hp,run_underlying hu]
end
end Go.Vx
end
section
namespace Go.Vx
open Go.Ax
open Go.RowKit (Below)
inductive Up where
  | no
  | set (b:Nat) (x:Blk)
  | new (x:Blk)
  | app (b:Nat) (x:Blk)
def Up.h (nb:Nat) (h:Nat→Option Blk):Up→Nat→Option Blk
  | .no=>h
  | .set b x=>setB h b (some x)
  | .new x=>setB h nb (some x)
  | .app b x=>setB (setB h b none) nb (some x)
def Up.nb (nb:Nat):Up→Nat
  | .no=>nb
  | .set _ _=>nb
  | .new _=>nb+1
  | .app _ _=>nb+1
def Up.mod (nb:Nat):Up→Nat→Prop
  | .no=>fun _=>False
  | .set b _=>fun c=>c=b
  | .new _=>fun c=>c=nb
  | .app b _=>fun c=>c=b∨c=nb
def Up.old:Up→Option Nat
  | .set b _=>some b
  | .app b _=>some b
  | _=>none
def natOf:Int→Option Nat
  | .ofNat n=>some n
  | .negSucc _=>none
theorem natOf_eq {i:Int} {n:Nat} (h:natOf i=some n):i=(n:Int):=by
  cases i with
  | ofNat m=>cases h;rfl
  | negSucc m=>cases h
def preB (op:BinOp) (x y:Value):Bool:=match op,x,y with
  | .quo,_,.int _ (.ofNat n)=>!(Nat.beq n 0)
  | .quo,_,.int _ (.negSucc _)=>true
  | .rem,_,.int _ (.ofNat n)=>!(Nat.beq n 0)
  | .rem,_,.int _ (.negSucc _)=>true
  | .shl,_,.int _ b=>(natOf b).isSome
  | .shr,_,.int _ b=>(natOf b).isSome
  | .add,.string a,.string b=>Nat.ble (a.size+b.size) 9223372036854775807
  | _,_,_=>true
theorem preB_ok {kind:TyK} {op:BinOp} {x y:Value} {pre:Prop} {v:Value} (h:binV kind op x y=some (pre,v)) (hp:preB op x y=true):pre:=by
  have hn:∀b:Int,(natOf b).isSome=true→0≤b:=fun b hb=>by
    cases b with
    | ofNat n=>exact Int.natCast_nonneg n
    | negSucc n=>cases hb
  have h0:∀n:Nat,(!(Nat.beq n 0))=true→(Int.ofNat n)≠0:=fun n hb e=>by
    have:n=0:=by simpa using e
    subst this;simp at hb
  unfold binV at h
  split at h
  · rename_i k a k' b
    split at h
    · cases h;exact hn _ hp
    · cases h;exact hn _ hp
    · split at h
      · unfold intBin at h
        split at h <;> cases h <;> first
          | trivial
          | (cases b with
            | ofNat n=>exact h0 n hp
            | negSucc n=>exact fun e=>by cases e)
      · cases h
  · split at h <;> first
      | (cases h;first|trivial|exact Nat.le_of_ble_eq_true hp)
      | cases h
  · split at h <;> first
      | (cases h;trivial)
      | cases h
  · split at h <;> first
      | (cases h;trivial)
      | cases h
  · cases h
def ifB {α:Type} (b:Bool) (x:Option α):Option α:=match b with
  | true=>x
  | false=>none
theorem ifB_eq {α:Type} {b:Bool} {x:Option α} {y:α} (h:ifB b x=some y):b=true∧x=some y:=by
  cases b with
  | true=>exact ⟨rfl,h⟩
  | false=>cases h
section
variable (tt:TypeId→Option TyI) (ng lim nb:Nat) (h:Nat→Option Blk) (ev:Operand→VV)
def evAlloc (ti:TyI):Option (VV×Up):=match ti.zero with
  | some zs=>ifB (zs.all (·.oneCell')) (some (.p nb 0,.new (.cells (zs.map VV.s))))
  | none=>none
def evLoad (ti:TyI) (b off:Nat):Option (VV×Up):=match loadC h b off ti.size with
  | some xs => match VV.mk ti.agg xs with
    | some y=>some (y,.no)
    | none=>none
  | none=>none
def evStore (ti:TyI) (b off:Nat) (y:VV):Option (VV×Up):=match h b,y.cells with
  | some (.cells cs),some new=>ifB (Nat.beq new.length ti.size && Nat.ble (off+ti.size) cs.length && Nat.ble ng b && Nat.ble lim b) (some (.u,.set b (.cells (putL cs off new))))
  | _,_=>none
def evFieldAddr (ti:TyI) (b off f:Nat):Option (VV×Up):=match ti.kind,h b with
  | .struct offs, some _ => match offs[f]? with
    | some (d,c,_)=>ifB (Nat.ble 1 c) (some (.p b (off+d),.no))
    | none=>none
  | _,_=>none
def evField (ti:TyI) (xs:List VV) (f:Nat):Option (VV×Up):=match ti.kind with
  | .struct offs => match offs[f]? with
    | some (d,c,true)=>ifB (Nat.ble 1 c && Nat.ble (d+c) xs.length) (some (.agg ((xs.drop d).take c),.no))
    | _=>none
  | _=>none
def evIdxSl (ti:TyI) (b off es n i:Nat):Option (VV×Up):=match ti.kind,h b with
  | .slice _ sz,some _=>ifB (Nat.ble 1 sz && Nat.beq es sz && Nat.ble (i+1) n) (some (.p b (off+i*sz),.no))
  | _,_=>none
def evIdxArr (ti:TyI) (b off i:Nat):Option (VV×Up):=match ti.kind,h b with
  | .array m _ sz,some _=>ifB (Nat.ble 1 sz && Nat.ble (i+1) m) (some (.p b (off+i*sz),.no))
  | _,_=>none
def evIdxStr (ti:TyI) (s:ByteArray) (i:Nat):Option (VV×Up):=match ti.kind with
  | .string=>ifB (Nat.ble (i+1) s.size) (some (.s (.int .u8 (s.data.getD i 0).toNat),.no))
  | _=>none
def evIdxAgg (ti:TyI) (xs:List VV) (i:Nat):Option (VV×Up):=match ti.kind with
  | .array m e sz => match tt e with
    | some te => match VV.mk te.agg ((xs.drop (i * sz)).take sz) with
      | some v=>ifB (Nat.ble 1 sz && Nat.ble (i+1) m && Nat.ble (i*sz+sz) xs.length && (te.agg || Nat.beq sz 1)) (some (v,.no))
      | none=>none
    | none=>none
  | _=>none
def bndB (l hh:Option Int) (n c:Nat):Option (Nat×Nat):=match natOf (l.getD 0),natOf (hh.getD n) with
  | some a,some b=>ifB (Nat.ble a b && Nat.ble b c && (Nat.beq a 0 || Nat.ble (a+1) c)) (some (a,b))
  | _,_=>none
def evSlice (ti:TyI) (x:VV) (l hh:Option Int):Option (VV×Up):=match x,ti.kind with
  | .s (.string s), .string => match natOf (l.getD 0), natOf (hh.getD s.size) with
    | some a,some b=>ifB (Nat.ble a b && Nat.ble b s.size) (some (.s (.string (s.extract a b)),.no))
    | _,_=>none
  | .sl b off es n c, .slice _ sz => match bndB l hh n c, h b with
    | some (a,z),some _=>ifB (Nat.beq es sz && Nat.ble 1 sz) (some (.sl b (off+a*sz) sz (z - a) (c - a),.no))
    | _,_=>none
  | .p b off, .array m _ sz => match bndB l hh m m, h b with
    | some (a,z),some (.cells cs)=>ifB (Nat.ble 1 sz && Nat.ble (off+m*sz) cs.length) (some (.sl b (off+a*sz) sz (z - a) (m - a),.no))
    | _,_=>none
  | _,_=>none
def isZ:VV→Bool
  | .s (.int _ (.ofNat n))=>Nat.beq n 0
  | _=>false
def evSlice3 (ti:TyI) (x:VV) (u1v v:VV):Option (VV×Up):=match ti.kind with
  | .slice _ sz => ifB (isZ u1v && isZ v && Nat.ble 1 sz) (match x with
    | .sl b off es _ _ => match h b with
      | some _=>ifB (Nat.beq es sz) (some (.z0 b off,.no))
      | none=>none
    | .s (.slice none a c)=>ifB (nilS a c) (some (.s (.slice none 0 0),.no))
    | _=>none)
  | _=>none
def evMake (ti:TyI) (l c:Nat):Option (VV×Up):=match ti.kind with
  | .slice e sz => match tt e with
    | some te => match te.zero with
      | some zs=>ifB (Nat.ble 1 sz && zs.all (·.oneCell') && Nat.beq zs.length sz && Nat.ble l c && Nat.ble (te.bytes*c) 281474976710656 && Nat.ble c 9223372036854775807) (some (.sl nb 0 sz l c,.new (.cells ((List.replicate c (zs.map VV.s)).flatten))))
      | none=>none
    | none=>none
  | _=>none
def evBuild (ti:TyI) (parts:Array (Nat×Operand)):Option (VV×Up):=match ti.zero with
  | some zs => match buildV (partOffs ti.kind) ev parts.toList (zs.map VV.s) with
    | some ls=>ifB (partsOk ti.kind && zs.all (·.oneCell')) (some (.agg ls,.no))
    | none=>none
  | none=>none
def evBuildSlice (ti:TyI) (len:Nat) (parts:Array (Nat×Operand)):Option (VV×Up):=match ti.kind with
  | .slice e sz => match tt e with
    | some te => match te.zero with
      | some zs => match buildV (fun i => some (i * sz, sz)) ev parts.toList (List.replicate (len * sz) .u1) with
        | some ls=>ifB (Nat.ble 1 sz && zs.all (·.oneCell') && Nat.beq zs.length sz && Nat.ble (len*sz) 16777216) (some (.sl nb 0 sz len len,.new (.cells ls)))
        | none=>none
      | none=>none
    | none=>none
  | _=>none
def evBin (ti:TyI) (op:BinOp) (x y:VV):Option (VV×Up):=match x,y with
  | .s a, .s b => match binV ti.kind op a b with
    | some (_,v)=>ifB (preB op a b && v.oneCell') (some (.s v,.no))
    | none=>none
  | .sl b _ _ _ _, .s (.slice none a c) => match ti.kind, op, h b with
    | .slice _ _,.eql,some _=>ifB (nilS a c) (some (.s (.bool false),.no))
    | .slice _ _,.neq,some _=>ifB (nilS a c) (some (.s (.bool true),.no))
    | _,_,_=>none
  | .agg xs, .agg ys => match ti.flat, valsV xs, valsV ys, op with
    | some ks,some vs,some us,.eql=>ifB (ti.agg && ksOk ks vs && ksOk ks us) (some (.s (.bool (eqVs vs us)),.no))
    | some ks,some vs,some us,.neq=>ifB (ti.agg && ksOk ks vs && ksOk ks us) (some (.s (.bool (!eqVs vs us)),.no))
    | _,_,_,_=>none
  | _,_=>none
def evApp (ti:TyI) (x y:VV):Option (VV×Up):=match ti.kind with
  | .slice e sz => match tt e, y with
    | some te, .sl b2 o2 es m _ => match te.zero, loadC h b2 o2 (m * sz) with
      | some zs, some ys => ifB (Nat.ble 1 sz && Nat.beq zs.length sz && Nat.beq es sz && Nat.ble 1 m) (match x with
        | .sl b off es' n _ => match loadC h b 0 (n * sz) with
          | some xs=>ifB (Nat.beq off 0 && Nat.beq es' sz && Nat.ble ng b && Nat.ble lim b && Nat.ble (n+m) 4294967296 && Nat.ble ((n+m)*te.bytes) 140737488355328) (some (.sl nb 0 sz (n+m) (n+m),.app b (.cells (xs++ys))))
          | none=>none
        | .s (.slice none a c)=>ifB (nilS a c && Nat.ble m 4294967296 && Nat.ble (m*te.bytes) 140737488355328) (some (.sl nb 0 sz m m,.new (.cells ys)))
        | .z0 b _ => match h b with
          | some _=>ifB (Nat.ble m 4294967296 && Nat.ble (m*te.bytes) 140737488355328) (some (.sl nb 0 sz m m,.new (.cells ys)))
          | none=>none
        | _=>none)
      | _,_=>none
    | some _, .s (.slice none a c) => match x with
      | .s (.slice none a' c')=>ifB (nilS a c && nilS a' c' && Nat.ble 1 sz) (some (.s (.slice none 0 0),.no))
      | _=>none
    | _,_=>none
  | _=>none
def evCopy (ti:TyI) (x y:VV):Option (VV×Up):=match ti.kind,x,y with
  | .slice _ sz, .sl b off es n _, .sl b2 o2 es2 m _ => match h b, loadC h b2 o2 (Nat.min m n * sz) with
    | some (.cells cs),some ys=>ifB (Nat.ble 1 sz && Nat.beq es sz && Nat.beq es2 sz && Nat.ble ng b && Nat.ble lim b && Nat.ble (off+Nat.min m n*sz) cs.length) (some (.s (.int .i64 (Nat.min m n:Nat)),.set b (.cells (putL cs off ys))))
    | _,_=>none
  | _,_,_=>none
def evLen (ti:TyI) (x:VV):Option (VV×Up):=match x,ti.kind with
  | .s (.string s),.string=>some (.s (.int .i64 s.size),.no)
  | .s (.slice none n _),.slice _ _=>some (.s (.int .i64 n),.no)
  | .sl b _ _ n _, .slice _ _ => match h b with
    | some _=>some (.s (.int .i64 n),.no)
    | none=>none
  | .z0 b _, .slice _ _ => match h b with
    | some _=>some (.s (.int .i64 0),.no)
    | none=>none
  | _,_=>none
def evClear (ti:TyI) (x:VV):Option (VV×Up):=match ti.kind with
  | .slice e sz => match x with
    | .s (.slice none a c)=>ifB (nilS a c) (some (.tup [],.no))
    | .sl b off es n _ => match h b, Nat.beq n 0 with
      | some _,true=>some (.tup [],.no)
      | some (.cells cs), false => match tt e with
        | some te => match te.zero with
          | some zs=>ifB (Nat.ble 1 sz && zs.all (·.oneCell') && Nat.beq zs.length sz && Nat.beq es sz && Nat.ble ng b && Nat.ble lim b && Nat.ble (off+n*sz) cs.length) (some (.tup [],.set b (.cells (putL cs off ((List.replicate n (zs.map VV.s)).flatten)))))
          | none=>none
        | none=>none
      | _,_=>none
    | _=>none
  | _=>none
def evBuiltin (bi:Builtin) (args:List Operand) (ats:List TypeId):Option (VV×Up):=match bi,args,ats with
  | .len, [x], [T] => match tt T with
    | some ti=>evLen h ti (ev x)
    | none=>none
  | .max, xs, _ => match xs.map ev with
    | .s (.int k x) :: l => match maxV k x l with
      | some z=>some (.s (.int k z),.no)
      | none=>none
    | _=>none
  | .min, xs, _ => match xs.map ev with
    | .s (.int k x) :: l => match minV k x l with
      | some z=>some (.s (.int k z),.no)
      | none=>none
    | _=>none
  | .append, [x, y], [T, T'] => match tt T with
    | some ti=>ifB (Nat.beq T T') (evApp tt ng lim nb h ti (ev x) (ev y))
    | none=>none
  | .clear, [x], T :: _ => match tt T with
    | some ti=>evClear tt ng lim h ti (ev x)
    | none=>none
  | .copy, [x, y], T :: _ => match tt T with
    | some ti=>evCopy ng lim h ti (ev x) (ev y)
    | none=>none
  | _,_,_=>none
def evOp (o:Oper):Option (VV×Up):=
  match o.op with
  | .move x=>some (ev x,.no)
  | .assign x=>some (ev x,.no)
  | .pick c x y => match ev c with
    | .s (.bool true)=>some (ev x,.no)
    | .s (.bool false)=>some (ev y,.no)
    | _=>none
  | .box _ x => match (ev x).cells with
    | some xs=>some (.p nb 0,.new (.cells xs))
    | none=>none
  | .alloc T => match tt T with
    | some ti=>evAlloc nb ti
    | none=>none
  | .load T x => match ev x, tt T with
    | .p b off,some ti=>evLoad h ti b off
    | _,_=>none
  | .store T x y => match ev x, tt T with
    | .p b off,some ti=>evStore ng lim h ti b off (ev y)
    | _,_=>none
  | .fieldAddr T x f => match ev x, tt T with
    | .p b off,some ti=>evFieldAddr h ti b off f
    | _,_=>none
  | .field T x f => match ev x, tt T with
    | .agg xs,some ti=>evField ti xs f
    | _,_=>none
  | .indexAddr T x y => match ev y, tt T with
    | .s (.int _ (.ofNat i)), some ti => match ev x with
      | .sl b off es n _=>evIdxSl h ti b off es n i
      | .p b off=>evIdxArr h ti b off i
      | _=>none
    | _,_=>none
  | .index T x y => match ev y, tt T with
    | .s (.int _ (.ofNat i)), some ti => match ev x with
      | .s (.string s)=>evIdxStr ti s i
      | .agg xs=>evIdxAgg tt ti xs i
      | _=>none
    | _,_=>none
  | .slice T x lo hi none => match tt T, optI ev lo, optI ev hi with
    | some ti,some l,some hh=>evSlice h ti (ev x) l hh
    | _,_,_=>none
  | .slice T x none (some u) (some v) => match tt T with
    | some ti=>evSlice3 h ti (ev x) (ev u) (ev v)
    | none=>none
  | .makeSlice T x y => match ev x, ev y, tt T with
    | .s (.int _ (.ofNat l)),.s (.int _ (.ofNat c)),some ti=>evMake tt nb ti l c
    | _,_,_=>none
  | .build T parts => match tt T with
    | some ti=>evBuild ev ti parts
    | none=>none
  | .buildSlice T len parts => match tt T with
    | some ti=>evBuildSlice tt nb ev ti len parts
    | none=>none
  | .makeFunc fn first captured=>some (.fn fn (first.toList.map ev) (captured.toList.map ev),.no)
  | .extract x i => match ev x with
    | .tup xs => match xs[i]? with
      | some y=>some (y,.no)
      | none=>none
    | _=>none
  | .nilCheck x => match ev x with
    | .p b off => match h b with
      | some _=>some (.p b off,.no)
      | none=>none
    | _=>none
  | .binOp op T x y _ => match tt T with
    | some ti=>evBin h ti op (ev x) (ev y)
    | none=>none
  | .unOp op _ x => match ev x with
    | .s a => match unV op a with
      | some v=>some (.s v,.no)
      | none=>none
    | _=>none
  | .convert S T x => match ev x, tt S, tt T with
    | .s a, some si, some ti => match convV si.kind ti.kind a with
      | some v=>some (.s v,.no)
      | none=>none
    | _,_,_=>none
  | .call cl => match cl.callee with
    | .builtin bi=>evBuiltin tt ng lim nb h ev bi cl.args.toList cl.argTypes.toList
    | _=>none
  | _=>none
end
end Go.Vx
end
