/- Lemmas on the program and its library, part Vx9. -/
import Derived.Test.YtalgbhjnbgkneaaGreatDoorZVx7
set_option linter.unusedVariables false
set_option linter.unusedSimpArgs false
section
namespace Go.Vx
open Go.Ax
open Go.RowKit (Below)
theorem stepV_cast {P:Program} {w0:World} {ng:Nat} {o:Oper} {ev:Operand→VV} {h:Nat→Option Blk} {nb nb':Nat} {v v':VV} {h':Nat→Option Blk} {mod:Nat→Prop} (hs:StepV P w0 ng o ev h nb nb' v h' mod) (e:v=v'):StepV P w0 ng o ev h nb nb' v' h' mod:=e ▸ hs
section
variable {P:Program} {w0:World} {ng lim nb:Nat} {tt:TypeId→Option TyI} {h:Nat→Option Blk} {ev:Operand→VV} {o:Oper} {v:VV} {u:Up}
def Good (P:Program) (w0:World) (ng lim nb:Nat) (h:Nat→Option Blk) (ev:Operand→VV) (o:Oper) (v:VV) (u:Up):Prop:=
  StepV P w0 ng o ev h nb (u.nb nb) v (u.h nb h) (u.mod nb)∧∀b,u.old=some b→lim≤b∧∃z,h b=some z
theorem loadC_some {b o n:Nat} {xs:List VV} (hx:loadC h b o n=some xs):∃z,h b=some z:=by
  unfold loadC at hx
  split at hx
  · rename_i cs hb;exact ⟨_,hb⟩
  · cases hx
theorem good_no (hs:StepV P w0 ng o ev h nb nb v h (fun _=>False)):Good P w0 ng lim nb h ev o v .no:=⟨hs,fun _ h=>by cases h⟩
theorem and_t {a b:Bool} (h:(a && b)=true):a=true∧b=true:=by simpa using h
theorem or_t {a b:Bool} (h:(a || b)=true):a=true∨b=true:=by simpa using h
theorem le_t {a b:Nat} (h:Nat.ble a b=true):a≤b:=Nat.le_of_ble_eq_true h
theorem eq_t {a b:Nat} (h:Nat.beq a b=true):a=b:=Nat.eq_of_beq_eq_true h
theorem evAlloc_sound {T:TypeId} (ho:o.op= .alloc T) {ti:TyI} (ht:tyI P T=some ti) (hng:ng≤nb) (e:evAlloc nb ti=some (v,u)):Good P w0 ng lim nb h ev o v u:=by
  unfold evAlloc at e
  split at e
  · rename_i zs hz
    obtain ⟨h1,e⟩:=ifB_eq e
    cases e
    exact ⟨stepV_alloc ho ht hz h1 ev h hng,fun _ h=>by cases h⟩
  · cases e
theorem evLoad_sound {T:TypeId} {x:Operand} (ho:o.op= .load T x) {b off:Nat} (hx:ev x= .p b off) {ti:TyI} (ht:tyI P T=some ti) (e:evLoad h ti b off=some (v,u)):Good P w0 ng lim nb h ev o v u:=by
  unfold evLoad at e
  split at e
  · rename_i xs hxs
    split at e
    · rename_i y hy
      cases e
      exact good_no (stepV_load ho hx ht hxs hy nb)
    · cases e
  · cases e
theorem evStore_sound {T:TypeId} {x y:Operand} (ho:o.op= .store T x y) {b off:Nat} (hx:ev x= .p b off) {ti:TyI} (ht:tyI P T=some ti) (e:evStore ng lim h ti b off (ev y)=some (v,u)):Good P w0 ng lim nb h ev o v u:=by
  unfold evStore at e
  split at e
  · rename_i cs new hb hy
    obtain ⟨h1,e⟩:=ifB_eq e
    cases e
    obtain ⟨h1,h4⟩:=and_t h1
    obtain ⟨h1,h3⟩:=and_t h1
    obtain ⟨h1,h2⟩:=and_t h1
    exact ⟨stepV_store ho hx hb (le_t h3) ht hy (eq_t h1) (le_t h2) nb,fun _ h=>by cases h;exact ⟨le_t h4,_,hb⟩⟩
  · cases e
theorem evFieldAddr_sound {T:TypeId} {x:Operand} {f:Nat} (ho:o.op= .fieldAddr T x f) {b off:Nat} (hx:ev x= .p b off) {ti:TyI} (ht:tyI P T=some ti) (e:evFieldAddr h ti b off f=some (v,u)):Good P w0 ng lim nb h ev o v u:=by
  unfold evFieldAddr at e
  split at e
  · rename_i offs z hk hb
    split at e
    · rename_i d c r hf
      obtain ⟨h1,e⟩:=ifB_eq e
      cases e
      exact good_no (stepV_fieldAddr ho hx hb ht hk hf (le_t h1) nb)
    · cases e
  · cases e
theorem evField_sound {T:TypeId} {x:Operand} {f:Nat} (ho:o.op= .field T x f) {xs:List VV} (hx:ev x= .agg xs) {ti:TyI} (ht:tyI P T=some ti) (e:evField ti xs f=some (v,u)):Good P w0 ng lim nb h ev o v u:=by
  unfold evField at e
  split at e
  · rename_i offs hk
    split at e
    · rename_i d c hf
      obtain ⟨h1,e⟩:=ifB_eq e
      cases e
      obtain ⟨h2,h3⟩:=and_t h1
      refine good_no (stepV_field ho hx ht hk hf (le_t h2) (le_t h3) rfl (fun e=>by cases e) nb fun fs fd q1 q2 q3=>?_)
      obtain ⟨fs',fd',w1,w2,_,_,w3⟩:=tyI_struct ht hk hf
      rw [q1] at w1;cases w1
      rw [q2] at w2;cases w2
      rw [q3] at w3;cases w3
    · cases e
  · cases e
theorem evIdxSl_sound {T:TypeId} {x y:Operand} (ho:o.op= .indexAddr T x y) {kd:IntKind} {i:Nat} (hy:ev y= .s (.int kd (.ofNat i))) {b off es n c:Nat} (hx:ev x= .sl b off es n c) {ti:TyI} (ht:tyI P T=some ti) (e:evIdxSl h ti b off es n i=some (v,u)):Good P w0 ng lim nb h ev o v u:=by
  unfold evIdxSl at e
  split at e
  · rename_i e0 sz z hk hb
    obtain ⟨h1,e⟩:=ifB_eq e
    cases e
    obtain ⟨h1,h3⟩:=and_t h1
    obtain ⟨h1,h2⟩:=and_t h1
    have h3:=le_t h3
    exact good_no (stepV_idxSlice ho hy hx hb ht hk (le_t h1) (Int.natCast_nonneg i) (by show (i:Int) < n;omega) nb)
  · cases e
theorem evIdxArr_sound {T:TypeId} {x y:Operand} (ho:o.op= .indexAddr T x y) {kd:IntKind} {i:Nat} (hy:ev y= .s (.int kd (.ofNat i))) {b off:Nat} (hx:ev x= .p b off) {ti:TyI} (ht:tyI P T=some ti) (e:evIdxArr h ti b off i=some (v,u)):Good P w0 ng lim nb h ev o v u:=by
  unfold evIdxArr at e
  split at e
  · rename_i m e0 sz z hk hb
    obtain ⟨h1,e⟩:=ifB_eq e
    cases e
    obtain ⟨h1,h2⟩:=and_t h1
    have h2:=le_t h2
    exact good_no (stepV_idxArr ho hy hx hb ht hk (le_t h1) (Int.natCast_nonneg i) (by show (i:Int) < m;omega) nb)
  · cases e
theorem evIdxStr_sound {T:TypeId} {x y:Operand} (ho:o.op= .index T x y) {kd:IntKind} {i:Nat} (hy:ev y= .s (.int kd (.ofNat i))) {s:ByteArray} (hx:ev x= .s (.string s)) {ti:TyI} (ht:tyI P T=some ti) (e:evIdxStr ti s i=some (v,u)):Good P w0 ng lim nb h ev o v u:=by
  unfold evIdxStr at e
  split at e
  · rename_i hk
    obtain ⟨h1,e⟩:=ifB_eq e
    cases e
    have h1:=le_t h1
    exact good_no (stepV_indexStr ho hy hx h ht hk ⟨Int.natCast_nonneg i,by show (i:Int) < s.size;omega⟩ nb)
  · cases e
theorem evIdxAgg_sound (htt:TtOk P tt) {T:TypeId} {x y:Operand} (ho:o.op= .index T x y) {kd:IntKind} {i:Nat} (hy:ev y= .s (.int kd (.ofNat i))) {xs:List VV} (hx:ev x= .agg xs) {ti:TyI} (ht:tyI P T=some ti) (e:evIdxAgg tt ti xs i=some (v,u)):Good P w0 ng lim nb h ev o v u:=by
  unfold evIdxAgg at e
  split at e
  · rename_i m e0 sz hk
    split at e
    · rename_i te hte
      split at e
      · rename_i y' hv
        obtain ⟨h1,e⟩:=ifB_eq e
        cases e
        obtain ⟨h1,h4⟩:=and_t h1
        obtain ⟨h1,h3⟩:=and_t h1
        obtain ⟨h1,h2⟩:=and_t h1
        have h2:=le_t h2
        refine good_no (stepV_indexAgg ho hy hx h ht hk (htt _ _ hte) (le_t h1) (le_t h3) hv ⟨Int.natCast_nonneg i,by show (i:Int) < m;omega⟩ (fun hf=>?_) nb)
        rw [hf] at h4
        exact eq_t (by simpa using h4)
      · cases e
    · cases e
  · cases e
theorem bndB_ok {l hh:Option Int} {n c a z:Nat} (e:bndB l hh n c=some (a,z)):l.getD 0=(a:Int)∧hh.getD n=(z:Int)∧a≤z∧z≤c∧(a=0∨a < c):=by
  unfold bndB at e
  split at e
  · rename_i a' z' h1 h2
    obtain ⟨h3,e⟩:=ifB_eq e
    cases e
    obtain ⟨h3,h5⟩:=and_t h3
    obtain ⟨h3,h4⟩:=and_t h3
    refine ⟨natOf_eq h1,natOf_eq h2,le_t h3,le_t h4,?_⟩
    rcases or_t h5 with h|h
    · exact .inl (eq_t h)
    · exact .inr (le_t h)
  · cases e
theorem evSlice_sound {T:TypeId} {x:Operand} {lo hi:Option Operand} (ho:o.op= .slice T x lo hi none) {ti:TyI} (ht:tyI P T=some ti) {l hh:Option Int} (hl:optI ev lo=some l) (hhh:optI ev hi=some hh) (e:evSlice h ti (ev x) l hh=some (v,u)):Good P w0 ng lim nb h ev o v u:=by
  unfold evSlice at e
  split at e
  · rename_i s hx hk
    split at e
    · rename_i a z h1 h2
      obtain ⟨h3,e⟩:=ifB_eq e
      cases e
      obtain ⟨h3,h4⟩:=and_t h3
      have h3:=le_t h3
      have h4:=le_t h4
      have h1:=natOf_eq h1
      have h2:=natOf_eq h2
      have:=stepV_sliceStr (P:=P) (w0:=w0) (ng:=ng) ho hx h ht hk hl hhh (by omega) (by omega) (by omega) nb
      rw [h1,h2] at this
      exact good_no this
    · cases e
  · rename_i b off es n c e0 sz hx hk
    split at e
    · rename_i a z zz h1 hb
      obtain ⟨h3,e⟩:=ifB_eq e
      cases e
      obtain ⟨h3,h4⟩:=and_t h3
      have h3:=eq_t h3
      subst h3
      obtain ⟨g1,g2,g3,g4,g5⟩:=bndB_ok h1
      have:=stepV_sliceSl (P:=P) (w0:=w0) (ng:=ng) ho hx hb ht hk (le_t h4) hl hhh (by omega) (by omega) (by omega) (by omega) nb
      rw [g1,g2] at this
      exact good_no this
    · cases e
  · rename_i b off m e0 sz hx hk
    split at e
    · rename_i a z cs h1 hb
      obtain ⟨h3,e⟩:=ifB_eq e
      cases e
      obtain ⟨h3,h4⟩:=and_t h3
      obtain ⟨g1,g2,g3,g4,g5⟩:=bndB_ok h1
      have:=stepV_sliceArr (P:=P) (w0:=w0) (ng:=ng) ho hx hb ht hk (le_t h3) (le_t h4) hl hhh (by omega) (by omega) (by omega) (by omega) nb
      rw [g1,g2] at this
      exact good_no this
    · cases e
  · cases e
theorem isZ_eq {x:VV} (h:isZ x=true):∃k,x= .s (.int k 0):=by
  unfold isZ at h
  split at h
  · rename_i k n
    have:=eq_t h
    subst this
    exact ⟨k,rfl⟩
  · cases h
theorem evSlice3_sound {T:TypeId} {x y z:Operand} (ho:o.op= .slice T x none (some y) (some z)) {ti:TyI} (ht:tyI P T=some ti) (e:evSlice3 h ti (ev x) (ev y) (ev z)=some (v,u)):Good P w0 ng lim nb h ev o v u:=by
  unfold evSlice3 at e
  split at e
  · rename_i e0 sz hk
    obtain ⟨h0,e⟩:=ifB_eq e
    obtain ⟨h00,h3⟩:=and_t h0
    obtain ⟨h01,h02⟩:=and_t h00
    obtain ⟨k1,h1⟩:=isZ_eq h01
    obtain ⟨k2,h2⟩:=isZ_eq h02
    have h3:=le_t h3
    clear h0 h00 h01 h02
    split at e
    · rename_i b off es n c hx
      split at e
      · rename_i zz hb
        obtain ⟨h4,e⟩:=ifB_eq e
        cases e
        have h4:=eq_t h4
        subst h4
        exact good_no (stepV_slice00 ho h1 h2 hx hb ht hk h3 nb)
      · cases e
    · rename_i a c hx
      obtain ⟨h4,e⟩:=ifB_eq e
      cases e
      obtain ⟨rfl,rfl⟩:=nilS_eq h4
      exact good_no (stepV_slice00n ho h1 h2 hx h ht hk h3 nb)
    · cases e
  · cases e
theorem evMake_sound (htt:TtOk P tt) (hng:ng≤nb) {T:TypeId} {x y:Operand} (ho:o.op= .makeSlice T x y) {kl kc:IntKind} {l c:Nat} (hx:ev x= .s (.int kl (.ofNat l))) (hy:ev y= .s (.int kc (.ofNat c))) {ti:TyI} (ht:tyI P T=some ti) (e:evMake tt nb ti l c=some (v,u)):Good P w0 ng lim nb h ev o v u:=by
  unfold evMake at e
  split at e
  · rename_i e0 sz hk
    split at e
    · rename_i te hte
      split at e
      · rename_i zs hz
        obtain ⟨h1,e⟩:=ifB_eq e
        cases e
        obtain ⟨h1,h6⟩:=and_t h1
        obtain ⟨h1,h5⟩:=and_t h1
        obtain ⟨h1,h4⟩:=and_t h1
        obtain ⟨h1,h3⟩:=and_t h1
        obtain ⟨h1,h2⟩:=and_t h1
        have h4:=le_t h4
        have h5:=le_t h5
        have h6:=le_t h6
        have hb:(te.bytes:Int)*(Int.ofNat c)≤281474976710656:=by
          show (te.bytes:Int)*(c:Int)≤281474976710656
          rw [←Int.natCast_mul];omega
        have:=stepV_make (P:=P) (w0:=w0) (ng:=ng) ho hx hy h ht hk (le_t h1) (htt _ _ hte) hz h2 (eq_t h3) ⟨Int.natCast_nonneg l,by show (l:Int)≤c;omega,hb,by show (c:Int)≤_;omega⟩ hng
        exact ⟨this,fun _ h=>by cases h⟩
      · cases e
    · cases e
  · cases e
theorem evBuild_sound {T:TypeId} {parts:Array (Nat×Operand)} (ho:o.op= .build T parts) {ti:TyI} (ht:tyI P T=some ti) (e:evBuild ev ti parts=some (v,u)):Good P w0 ng lim nb h ev o v u:=by
  unfold evBuild at e
  split at e
  · rename_i zs hz
    split at e
    · rename_i ls hls
      obtain ⟨h1,e⟩:=ifB_eq e
      cases e
      obtain ⟨h1,h2⟩:=and_t h1
      exact good_no (stepV_build ho h ht h1 hz h2 hls nb)
    · cases e
  · cases e
theorem evBuildSlice_sound (htt:TtOk P tt) (hng:ng≤nb) {T:TypeId} {len:Nat} {parts:Array (Nat×Operand)} (ho:o.op= .buildSlice T len parts) {ti:TyI} (ht:tyI P T=some ti) (e:evBuildSlice tt nb ev ti len parts=some (v,u)):Good P w0 ng lim nb h ev o v u:=by
  unfold evBuildSlice at e
  split at e
  · rename_i e0 sz hk
    split at e
    · rename_i te hte
      split at e
      · rename_i zs hz
        split at e
        · rename_i ls hls
          obtain ⟨h1,e⟩:=ifB_eq e
          cases e
          obtain ⟨h1,h4⟩:=and_t h1
          obtain ⟨h1,h3⟩:=and_t h1
          obtain ⟨h1,h2⟩:=and_t h1
          exact ⟨stepV_buildSlice ho h ht hk (le_t h1) (htt _ _ hte) hz h2 (eq_t h3) hls (le_t h4) hng,fun _ h=>by cases h⟩
        · cases e
      · cases e
    · cases e
  · cases e
theorem evBin_sound {op:BinOp} {T T':TypeId} {x y:Operand} (ho:o.op= .binOp op T x y T') {ti:TyI} (ht:tyI P T=some ti) (e:evBin h ti op (ev x) (ev y)=some (v,u)):Good P w0 ng lim nb h ev o v u:=by
  unfold evBin at e
  split at e
  · rename_i a b hx hy
    split at e
    · rename_i pre r hb
      obtain ⟨h1,e⟩:=ifB_eq e
      cases e
      obtain ⟨h1,h2⟩:=and_t h1
      exact good_no (stepV_binV ho hx hy h ht hb (preB_ok hb h1) h2 nb)
    · cases e
  · rename_i b off es n c a cc hx hy
    split at e
    · rename_i hk hb
      obtain ⟨h1,e⟩:=ifB_eq e
      cases e
      obtain ⟨rfl,rfl⟩:=nilS_eq h1
      exact good_no (stepV_slNil ho hx hb hy ht hk (.inl ⟨rfl,rfl⟩) nb)
    · rename_i hk hb
      obtain ⟨h1,e⟩:=ifB_eq e
      cases e
      obtain ⟨rfl,rfl⟩:=nilS_eq h1
      exact good_no (stepV_slNil ho hx hb hy ht hk (.inr ⟨rfl,rfl⟩) nb)
    · cases e
  · rename_i xs ys hx hy
    split at e
    · rename_i ks vs us hf hv hu
      obtain ⟨h1,e⟩:=ifB_eq e
      cases e
      obtain ⟨h1,h3⟩:=and_t h1
      obtain ⟨h1,h2⟩:=and_t h1
      exact good_no (stepV_eqAgg ho hx hy h ht hf h1 hv hu h2 h3 (.inl ⟨rfl,rfl⟩) nb)
    · rename_i ks vs us hf hv hu
      obtain ⟨h1,e⟩:=ifB_eq e
      cases e
      obtain ⟨h1,h3⟩:=and_t h1
      obtain ⟨h1,h2⟩:=and_t h1
      exact good_no (stepV_eqAgg ho hx hy h ht hf h1 hv hu h2 h3 (.inr ⟨rfl,rfl⟩) nb)
    · cases e
  · cases e
theorem evApp_sound (htt:TtOk P tt) (hng:ng≤nb) {x y:Operand} {T:TypeId} (ho:o.op= .call { callee:=.builtin .append,args:=#[x,y],argTypes:=#[T,T] }) {ti:TyI} (ht:tyI P T=some ti) (e:evApp tt ng lim nb h ti (ev x) (ev y)=some (v,u)):Good P w0 ng lim nb h ev o v u:=by
  unfold evApp at e
  split at e
  · rename_i e0 sz hk
    split at e
    · rename_i te b2 o2 es m c2 hte hy
      split at e
      · rename_i zs ys hz hys
        obtain ⟨a0,e⟩:=ifB_eq e
        obtain ⟨a1,a2⟩:=and_t a0
        obtain ⟨a3,a4⟩:=and_t a1
        obtain ⟨a5,a6⟩:=and_t a3
        have a2:=le_t a2
        have a4:=eq_t a4
        have a5:=le_t a5
        have a6:=eq_t a6
        clear a0 a1 a3
        rw [a4] at hy
        split at e
        · rename_i b off es' n c hx
          split at e
          · rename_i xs hxs
            obtain ⟨b0,e⟩:=ifB_eq e
            cases e
            obtain ⟨b1,b2'⟩:=and_t b0
            obtain ⟨b3,b4⟩:=and_t b1
            obtain ⟨b5,b6⟩:=and_t b3
            obtain ⟨b7,b8⟩:=and_t b5
            obtain ⟨b9,b10⟩:=and_t b7
            have b9:=eq_t b9
            have b10:=eq_t b10
            rw [b9,b10] at hx
            exact ⟨stepV_app ho ht hk a5 (htt _ _ hte) hz a6 hx (le_t b8) hxs hy hys a2 (le_t b4) (le_t b2') hng,fun _ h=>by cases h;exact ⟨le_t b6,loadC_some hxs⟩⟩
          · cases e
        · rename_i a c hx
          obtain ⟨b0,e⟩:=ifB_eq e
          cases e
          obtain ⟨b1,b2'⟩:=and_t b0
          obtain ⟨b3,b4⟩:=and_t b1
          obtain ⟨rfl,rfl⟩:=nilS_eq b3
          exact ⟨stepV_app0 ho ht hk a5 (htt _ _ hte) hz a6 (.inl hx) hy hys a2 (le_t b4) (le_t b2') hng,fun _ h=>by cases h⟩
        · rename_i b off hx
          split at e
          · rename_i z hb
            obtain ⟨b0,e⟩:=ifB_eq e
            cases e
            obtain ⟨b3,b4⟩:=and_t b0
            exact ⟨stepV_app0 ho ht hk a5 (htt _ _ hte) hz a6 (.inr ⟨b,off,z,hx,hb⟩) hy hys a2 (le_t b3) (le_t b4) hng,fun _ h=>by cases h⟩
          · cases e
        · cases e
      · cases e
    · rename_i te a c hte hy
      split at e
      · rename_i a' c' hx
        obtain ⟨b0,e⟩:=ifB_eq e
        cases e
        obtain ⟨b1,b2'⟩:=and_t b0
        obtain ⟨b3,b4⟩:=and_t b1
        obtain ⟨rfl,rfl⟩:=nilS_eq b3
        obtain ⟨rfl,rfl⟩:=nilS_eq b4
        exact good_no (stepV_appNo ho ht hk (le_t b2') hx hy nb)
      · cases e
    · cases e
  · cases e
theorem evCopy_sound {x y:Operand} {T:TypeId} {ats:Array TypeId} (ho:o.op= .call { callee:=.builtin .copy,args:=#[x,y],argTypes:=ats }) (hT:ats[0]?=some T) {ti:TyI} (ht:tyI P T=some ti) (e:evCopy ng lim h ti (ev x) (ev y)=some (v,u)):Good P w0 ng lim nb h ev o v u:=by
  unfold evCopy at e
  split at e
  · rename_i e0 sz b off es n c b2 o2 es2 m c2 hk hx hy
    split at e
    · rename_i cs ys hb hys
      obtain ⟨b0,e⟩:=ifB_eq e
      cases e
      obtain ⟨b1,a6⟩:=and_t b0
      obtain ⟨b2',a5⟩:=and_t b1
      obtain ⟨b3,a4⟩:=and_t b2'
      obtain ⟨b4,a3⟩:=and_t b3
      obtain ⟨a1,a2⟩:=and_t b4
      have a2:=eq_t a2
      have a3:=eq_t a3
      rw [a2] at hx
      rw [a3] at hy
      exact ⟨stepV_copy ho hT ht hk (le_t a1) hx (le_t a4) hb ⟨b2,o2,c2,hy,hys⟩ (le_t a6) nb,fun _ h=>by cases h;exact ⟨le_t a5,_,hb⟩⟩
    · cases e
  · cases e
theorem evClear_sound (htt:TtOk P tt) {x:Operand} {T:TypeId} {ats:Array TypeId} (ho:o.op= .call { callee:=.builtin .clear,args:=#[x],argTypes:=ats }) (hT:ats[0]?=some T) {ti:TyI} (ht:tyI P T=some ti) (e:evClear tt ng lim h ti (ev x)=some (v,u)):Good P w0 ng lim nb h ev o v u:=by
  unfold evClear at e
  split at e
  · rename_i e0 sz hk
    split at e
    · rename_i a c hx
      obtain ⟨b0,e⟩:=ifB_eq e
      cases e
      obtain ⟨rfl,rfl⟩:=nilS_eq b0
      exact good_no (stepV_clear0 ho hT ht hk (.inl hx) nb)
    · rename_i b off es n c hx
      split at e
      · rename_i z hb hn
        cases e
        have hn:=eq_t hn
        subst hn
        exact good_no (stepV_clear0 ho hT ht hk (.inr ⟨b,off,es,c,z,hx,hb⟩) nb)
      · rename_i cs hb hn
        split at e
        · rename_i te hte
          split at e
          · rename_i zs hz
            obtain ⟨b0,e⟩:=ifB_eq e
            cases e
            obtain ⟨b1,a7⟩:=and_t b0
            obtain ⟨b2,a6⟩:=and_t b1
            obtain ⟨b3,a5⟩:=and_t b2
            obtain ⟨b4,a4⟩:=and_t b3
            obtain ⟨b5,a3⟩:=and_t b4
            obtain ⟨a1,a2⟩:=and_t b5
            have a4:=eq_t a4
            rw [a4] at hx
            have hn:0 < n:=by
              rcases Nat.eq_zero_or_pos n with h|h
              · subst h;simp at hn
              · exact h
            exact ⟨stepV_clear ho hT ht hk (le_t a1) (htt _ _ hte) hz a2 (eq_t a3) hx (le_t a5) hb hn (le_t a7) nb,fun _ h=>by cases h;exact ⟨le_t a6,_,hb⟩⟩
          · cases e
        · cases e
      · cases e
    · cases e
  · cases e
theorem evLen_sound {x:Operand} {T:TypeId} {ats:Array TypeId} (ho:o.op= .call { callee:=.builtin .len,args:=#[x],argTypes:=ats }) (hT:ats[0]?=some T) {ti:TyI} (ht:tyI P T=some ti) (e:evLen h ti (ev x)=some (v,u)):Good P w0 ng lim nb h ev o v u:=by
  unfold evLen at e
  split at e
  · rename_i s hx hk
    cases e
    exact good_no (stepV_len ho hT (by rw [hx];rfl) ht (.inl ⟨hk,s,hx⟩) nb)
  · rename_i n c e0 sz hx hk
    cases e
    exact good_no (stepV_len ho hT (by rw [hx];rfl) ht (.inr ⟨⟨_,_,hk⟩,by rw [hx];rintro ⟨s,hs⟩;cases hs⟩) nb)
  · rename_i b off es n c e0 sz hx hk
    split at e
    · rename_i z hb
      cases e
      exact good_no (stepV_len ho hT (by rw [hx];simp only [lenV,hb]) ht (.inr ⟨⟨_,_,hk⟩,by rw [hx];rintro ⟨s,hs⟩;cases hs⟩) nb)
    · cases e
  · rename_i b off e0 sz hx hk
    split at e
    · rename_i z hb
      cases e
      exact good_no (stepV_len ho hT (by rw [hx];simp only [lenV,hb]) ht (.inr ⟨⟨_,_,hk⟩,by rw [hx];rintro ⟨s,hs⟩;cases hs⟩) nb)
    · cases e
  · cases e
theorem evBuiltin_sound (htt:TtOk P tt) (hng:ng≤nb) {bi:Builtin} {args:Array Operand} {ats:Array TypeId} (ho:o.op= .call { callee:=.builtin bi,args:=args,argTypes:=ats }) (e:evBuiltin tt ng lim nb h ev bi args.toList ats.toList=some (v,u)):Good P w0 ng lim nb h ev o v u:=by
  unfold evBuiltin at e
  split at e
  · rename_i x T hx hT
    have e1:args=#[x]:=by rw [←Array.toList_inj];exact hx
    have e2:ats=#[T]:=by rw [←Array.toList_inj];exact hT
    subst e1 e2
    split at e
    · rename_i ti ht
      exact evLen_sound ho rfl (htt _ _ ht) e
    · cases e
  · rename_i xs ats' hx
    split at e
    · rename_i k x l hl
      split at e
      · rename_i z hz
        cases e
        exact good_no (stepV_max ho hl hz h nb)
      · cases e
    · cases e
  · rename_i xs ats' hx
    split at e
    · rename_i k x l hl
      split at e
      · rename_i z hz
        cases e
        exact good_no (stepV_min ho hl hz h nb)
      · cases e
    · cases e
  · rename_i x y T T' hx hT
    have e1:args=#[x,y]:=by rw [←Array.toList_inj];exact hx
    have e2:ats=#[T,T']:=by rw [←Array.toList_inj];exact hT
    subst e1 e2
    split at e
    · rename_i ti ht
      obtain ⟨h1,e'⟩:=ifB_eq e
      have h1:T=T':=eq_t h1
      clear e
      subst h1
      exact evApp_sound htt hng ho (htt _ _ ht) e'
    · cases e
  · rename_i x T ats' hx hT
    have e1:args=#[x]:=by rw [←Array.toList_inj];exact hx
    subst e1
    have hT':ats[0]?=some T:=by rw [←Array.getElem?_toList,hT];rfl
    split at e
    · rename_i ti ht
      exact evClear_sound htt ho hT' (htt _ _ ht) e
    · cases e
  · rename_i x y T ats' hx hT
    have e1:args=#[x,y]:=by rw [←Array.toList_inj];exact hx
    subst e1
    have hT':ats[0]?=some T:=by rw [←Array.getElem?_toList,hT];rfl
    split at e
    · rename_i ti ht
      exact evCopy_sound ho hT' (htt _ _ ht) e
    · cases e
  · cases e
theorem evOp_sound (htt:TtOk P tt) (hng:ng≤nb) (e:evOp tt ng lim nb h ev o=some (v,u)):Good P w0 ng lim nb h ev o v u:=by
  unfold evOp at e
  split at e
  · rename_i x ho;cases e;exact good_no (stepV_move (.inl ho) ev h nb)
  · rename_i x ho;cases e;exact good_no (stepV_move (.inr ho) ev h nb)
  · rename_i c x y ho
    split at e
    · rename_i hc;cases e;exact good_no (stepV_cast (stepV_pick ho hc h nb) (by simp))
    · rename_i hc;cases e;exact good_no (stepV_cast (stepV_pick ho hc h nb) (by simp))
    · cases e
  · rename_i T x ho
    split at e
    · rename_i xs hx
      cases e
      exact ⟨stepV_box ho h hng hx,fun _ h=>by cases h⟩
    · cases e
  · rename_i T ho
    split at e
    · rename_i ti ht;exact evAlloc_sound ho (htt _ _ ht) hng e
    · cases e
  · rename_i T x ho
    split at e
    · rename_i b off ti hx ht;exact evLoad_sound ho hx (htt _ _ ht) e
    · cases e
  · rename_i T x y ho
    split at e
    · rename_i b off ti hx ht;exact evStore_sound ho hx (htt _ _ ht) e
    · cases e
  · rename_i T x f ho
    split at e
    · rename_i b off ti hx ht;exact evFieldAddr_sound ho hx (htt _ _ ht) e
    · cases e
  · rename_i T x f ho
    split at e
    · rename_i xs ti hx ht;exact evField_sound ho hx (htt _ _ ht) e
    · cases e
  · rename_i T x y ho
    split at e
    · rename_i kd i ti hy ht
      split at e
      · rename_i b off es n c hx;exact evIdxSl_sound ho hy hx (htt _ _ ht) e
      · rename_i b off hx;exact evIdxArr_sound ho hy hx (htt _ _ ht) e
      · cases e
    · cases e
  · rename_i T x y ho
    split at e
    · rename_i kd i ti hy ht
      split at e
      · rename_i s hx;exact evIdxStr_sound ho hy hx (htt _ _ ht) e
      · rename_i xs hx;exact evIdxAgg_sound htt ho hy hx (htt _ _ ht) e
      · cases e
    · cases e
  · rename_i T x lo hi ho
    split at e
    · rename_i ti l hh ht hl hhh;exact evSlice_sound ho (htt _ _ ht) hl hhh e
    · cases e
  · rename_i T x y z ho
    split at e
    · rename_i ti ht;exact evSlice3_sound ho (htt _ _ ht) e
    · cases e
  · rename_i T x y ho
    split at e
    · rename_i kl l kc c ti hx hy ht;exact evMake_sound htt hng ho hx hy (htt _ _ ht) e
    · cases e
  · rename_i T parts ho
    split at e
    · rename_i ti ht;exact evBuild_sound ho (htt _ _ ht) e
    · cases e
  · rename_i T len parts ho
    split at e
    · rename_i ti ht;exact evBuildSlice_sound htt hng ho (htt _ _ ht) e
    · cases e
  · rename_i fn fs cs ho;cases e;exact good_no (stepV_makeFunc ho ev h nb)
  · rename_i x i ho
    split at e
    · rename_i xs hx
      split at e
      · rename_i y hy;cases e;exact good_no (stepV_extract ho hx h hy nb)
      · cases e
    · cases e
  · rename_i x ho
    split at e
    · rename_i b off hx
      split at e
      · rename_i z hb;cases e;exact good_no (stepV_nilCheck ho hx hb nb)
      · cases e
    · cases e
  · rename_i op T x y T' ho
    split at e
    · rename_i ti ht;exact evBin_sound ho (htt _ _ ht) e
    · cases e
  · rename_i op T x ho
    split at e
    · rename_i a hx
      split at e
      · rename_i r hr;cases e;exact good_no (stepV_unV ho hx h hr nb)
      · cases e
    · cases e
  · rename_i S T x ho
    split at e
    · rename_i a si ti hx hs ht
      split at e
      · rename_i r hr;cases e;exact good_no (stepV_convV ho hx h (htt _ _ hs) (htt _ _ ht) hr nb)
      · cases e
    · cases e
  · rename_i cl ho
    obtain ⟨cal,args,ats⟩:=cl
    split at e
    · rename_i bi hb
      dsimp only at hb
      subst hb
      exact evBuiltin_sound htt hng ho e
    · cases e
  · cases e
-- axioms of evOp_sound
end
end Go.Vx
end
section
namespace Go.Vx
open Go.Ax
open Go.RowKit (Below)
def viewH (h:Nat→Option Blk) (b:Nat):Option Blk:=match h b with
  | some x=>some x.view
  | none=>none
def longer:Nat→List VV→Bool
  | 0,_=>true
  | _+1,[]=>false
  | n+1,_ :: r=>longer n r
def ofL:List VV→Nat→Tr VV→Option (Tr VV)
  | [],_,t=>some t
  | x :: r, i, t => match Tr.fits i with
    | true=>ofL r (Nat.succ i) (Tr.set t i (some x))
    | false=>none
def Blk.arrify:Blk→Blk
  | .cells cs => match longer 16 cs with
    | true => match ofL cs 0 Tr.lf with
      | some t=>.arr cs.length t
      | none=>.cells cs
    | false=>.cells cs
  | x=>x
def Up.arrify:Up→Up
  | .no=>.no
  | .set b x=>.set b x.arrify
  | .new x=>.new x.arrify
  | .app b x=>.app b x.arrify
def Up.view:Up→Up
  | .no=>.no
  | .set b x=>.set b x.view
  | .new x=>.new x.view
  | .app b x=>.app b x.view
theorem tvf_set {t:Tr VV} {d:Nat} (h:Tr.fits d=true) (v:VV) (n:Nat):tvf (Tr.set t d (some v)) n=if n=d then v else tvf t n:=by
  unfold tvf
  rw [Tr.get_set h]
  by_cases e:n=d <;> simp [e]
theorem arrL_len (t:Tr VV):∀n i,(arrL t n i).length=n
  | 0,_=>rfl
  | n+1,i=>by simp [arrL,arrL_len t n]
theorem arrL_get (t:Tr VV):∀(n i j:Nat),j < n→(arrL t n i)[j]?=some (tvf t (i+j))
  | 0,_,j,h=>by omega
  | n+1,i,0,_=>rfl
  | n + 1, i, j + 1, h => by
    show (arrL t n (Nat.succ i))[j]?=_
    rw [arrL_get t n _ j (by omega)]
    congr 2
    omega
theorem ofL_get:∀{cs:List VV} {i:Nat} {t t':Tr VV},ofL cs i t=some t'→∀m,tvf t' m=if i≤m then (match cs[m - i]? with|some x=>x|none=>tvf t m) else tvf t m
  | [],i,t,t',e,m=>by cases e;simp
  | x :: r, i, t, t', e, m => by
    unfold ofL at e
    split at e
    · rename_i hf
      rw [ofL_get e m,tvf_set hf]
      by_cases h:m=i
      · subst h
        rw [if_neg (by omega),if_pos rfl,if_pos (Nat.le_refl _),Nat.sub_self]
        rfl
      · by_cases h2:i≤m
        · rw [if_pos (by omega),if_neg h,if_pos h2,show m - i=(m - Nat.succ i)+1 by omega]
          rfl
        · rw [if_neg (by omega),if_neg h,if_neg h2]
    · cases e
theorem arrL_ofL {cs:List VV} {t:Tr VV} (e:ofL cs 0 Tr.lf=some t):arrL t cs.length 0=cs:=by
  apply List.ext_getElem?
  intro j
  by_cases h:j < cs.length
  · rw [arrL_get _ _ _ _ h,ofL_get e]
    simp [h]
  · rw [List.getElem?_eq_none (by rw [arrL_len];omega),List.getElem?_eq_none (by omega)]
theorem view_arrify (x:Blk) (hx:x.view=x):x.arrify.view=x:=by
  cases x with
  | cells cs =>
    unfold Blk.arrify
    dsimp only
    split
    · split
      · rename_i t e;show Blk.cells _=_;rw [arrL_ofL e]
      · rfl
    · rfl
  | arr n t=>exact hx
  | loop st pend t N ps asg body=>rfl
  | dfr=>rfl
def Blk.flat:Blk→Bool
  | .arr _ _=>false
  | _=>true
def Up.flat:Up→Bool
  | .no=>true
  | .set _ x=>x.flat
  | .new x=>x.flat
  | .app _ x=>x.flat
theorem view_arrifyU (u:Up) (hu:u.flat=true):u.arrify.view=u:=by
  have h:∀x:Blk,x.flat=true→x.view=x:=fun x hx=>by cases x <;> first|rfl|cases hx
  cases u with
  | no=>rfl
  | set b x=>show Up.set b _=_;rw [view_arrify x (h x hu)]
  | new x=>show Up.new _=_;rw [view_arrify x (h x hu)]
  | app b x=>show Up.app b _=_;rw [view_arrify x (h x hu)]
theorem arrL_put {t:Tr VV} {n off:Nat} (hf:Tr.fits off=true) (h:off+1≤n) (z:VV):arrL (Tr.set t off (some z)) n 0=putL (arrL t n 0) off [z]:=by
  apply List.ext_getElem?
  intro j
  by_cases hj:j < n
  · rw [arrL_get _ _ _ _ hj,tvf_set hf]
    unfold putL
    rw [List.getElem?_append,List.length_take,arrL_len,Nat.min_eq_left (by omega:off≤n)]
    by_cases h1:j < off
    · rw [if_pos h1,if_neg (by omega),List.getElem?_take,if_pos h1,arrL_get _ _ _ _ hj]
    · rw [if_neg h1]
      by_cases h2:j=off
      · subst h2;simp
      · rw [if_neg (by omega),show j - off=(j - off - 1)+1 by omega]
        show _=([]++(arrL t n 0).drop (off+1))[j - off - 1]?
        rw [List.nil_append,List.getElem?_drop,show off+1+(j - off - 1)=j by omega,arrL_get _ _ _ _ hj]
  · rw [List.getElem?_eq_none (by rw [arrL_len];omega),List.getElem?_eq_none]
    unfold putL
    simp only [List.length_append,List.length_take,List.length_drop,arrL_len,List.length_cons,List.length_nil]
    omega
theorem arrL_one {t:Tr VV} {n off:Nat} (h:off+1≤n):((arrL t n 0).drop off).take 1= [tvf t off]:=by
  apply List.ext_getElem?
  intro j
  cases j with
  | zero=>rw [List.getElem?_take,if_pos (by omega),List.getElem?_drop,Nat.add_zero,arrL_get _ _ _ _ (by omega)];simp
  | succ j=>rw [List.getElem?_take,if_neg (by omega)];simp
section
variable (tt:TypeId→Option TyI) (ng lim nb:Nat) (h:Nat→Option Blk) (ev:Operand→VV)
def upA (r:Option (VV×Up)):Option (VV×Up):=match r with
  | some (v, u) => match u.flat with
    | true=>some (v,u.arrify)
    | false=>none
  | none=>none
def evLdA (ti:TyI) (b off:Nat):Option (VV×Up):=match h b with
  | some (.arr n t) => match ti.agg, Nat.beq ti.size 1 && Nat.ble (Nat.succ off) n with
    | false,true=>some (tvf t off,.no)
    | _,_=>upA (evLoad (viewH h) ti b off)
  | _=>upA (evLoad (viewH h) ti b off)
def evStA (ti:TyI) (b off:Nat) (y:VV):Option (VV×Up):=match h b,y.cells with
  | some (.arr n t),some [z]=>ifB (Nat.beq 1 ti.size && Nat.ble (off+ti.size) n && Nat.ble ng b && Nat.ble lim b && Tr.fits off) (some (.u,.set b (.arr n (Tr.set t off (some z)))))
  | _,_=>upA (evStore ng lim (viewH h) ti b off y)
def evOp2 (o:Oper):Option (VV×Up):=match o.op with
  | .load T x => match ev x, tt T with
    | .p b off,some ti=>evLdA h ti b off
    | _,_=>none
  | .store T x y => match ev x, tt T with
    | .p b off,some ti=>evStA ng lim h ti b off (ev y)
    | _,_=>none
  | _=>upA (evOp tt ng lim nb (viewH h) ev o)
end
section
variable {P:Program} {w0:World} {ng lim nb:Nat} {tt:TypeId→Option TyI} {h:Nat→Option Blk} {ev:Operand→VV} {o:Oper} {v:VV} {u:Up}
theorem upA_eq {r:Option (VV×Up)} (e:upA r=some (v,u)):∃u0,r=some (v,u0)∧u.view=u0:=by
  unfold upA at e
  split at e
  · rename_i v' u'
    split at e
    · rename_i hf
      cases e
      exact ⟨u',rfl,view_arrifyU _ hf⟩
    · cases e
  · cases e
theorem viewH_arr {b n:Nat} {t:Tr VV} (hb:h b=some (.arr n t)):viewH h b=some (.cells (arrL t n 0)):=by unfold viewH;rw [hb];rfl
theorem evOp2_eq (e:evOp2 tt ng lim nb h ev o=some (v,u)):∃u0,evOp tt ng lim nb (viewH h) ev o=some (v,u0)∧u.view=u0:=by
  unfold evOp2 at e
  split at e
  · rename_i T x ho
    split at e
    · rename_i b off ti hx ht
      have e1:evOp tt ng lim nb (viewH h) ev o=evLoad (viewH h) ti b off:=by
        unfold evOp;rw [ho];dsimp only;rw [hx,ht]
      rw [e1]
      unfold evLdA at e
      split at e
      · rename_i n t hb
        split at e
        · rename_i ha hc
          obtain ⟨h1,h2⟩:=and_t hc
          cases e
          refine ⟨.no,?_,rfl⟩
          unfold evLoad loadC
          rw [viewH_arr hb]
          have h1:=Nat.eq_of_beq_eq_true h1
          have h2:off+1≤n:=le_t h2
          dsimp only
          rw [arrL_len,h1,show Nat.ble (off+1) n=true from Nat.ble_eq_true_of_le h2,arrL_one h2,ha]
          rfl
        · exact upA_eq e
      · exact upA_eq e
    · cases e
  · rename_i T x y ho
    split at e
    · rename_i b off ti hx ht
      have e1:evOp tt ng lim nb (viewH h) ev o=evStore ng lim (viewH h) ti b off (ev y):=by
        unfold evOp;rw [ho];dsimp only;rw [hx,ht]
      rw [e1]
      unfold evStA at e
      split at e
      · rename_i n t z hb hy
        obtain ⟨hc,e⟩:=ifB_eq e
        cases e
        obtain ⟨hc,h5⟩:=and_t hc
        obtain ⟨hc,h4⟩:=and_t hc
        obtain ⟨hc,h3⟩:=and_t hc
        obtain ⟨h1,h2⟩:=and_t hc
        have h1':=Nat.eq_of_beq_eq_true h1
        refine ⟨_,?_,rfl⟩
        unfold evStore
        rw [viewH_arr hb,hy]
        dsimp only
        rw [arrL_len,h2,h3,h4,show Nat.beq [z].length ti.size=true from h1]
        show some _=some _
        rw [←arrL_put h5 (by have:=le_t h2;omega)]
        rfl
      · exact upA_eq e
    · cases e
  · exact upA_eq e
theorem wr_view {ρ:Nat→Ph} {w:World} (x:WR w0 ng ρ h w):WR w0 ng ρ (viewH h) w:=by
  refine ⟨fun b z hb=>?_,x.own,x.lt,x.inj,x.below,x.glob⟩
  unfold viewH at hb
  split at hb
  · rename_i y hy
    cases hb
    obtain ⟨k,s,h1,h2⟩:=x.blk b y hy
    exact ⟨k,s,h1,BlkR.view.2 h2⟩
  · cases hb
theorem wr_unview {ρ:Nat→Ph} {w:World} (x:WR w0 ng ρ (viewH h) w):WR w0 ng ρ h w:=⟨fun b z hb=>(let ⟨k,s,h1,h2⟩:=x.blk b z.view (by unfold viewH;rw [hb]);⟨k,s,h1,BlkR.view.1 h2⟩),x.own,x.lt,x.inj,x.below,x.glob⟩
theorem setB_view (b:Nat) (x:Option Blk):viewH (setB h b x)=setB (viewH h) b (x.map Blk.view):=by
  funext m
  unfold viewH setB
  by_cases e:m=b
  · simp only [e,if_true];cases x <;> rfl
  · simp only [e,if_false]
theorem up_view:u.view.h nb (viewH h)=viewH (u.h nb h):=by
  cases u with
  | no=>rfl
  | set b x=>exact (setB_view b (some x)).symm
  | new x=>exact (setB_view nb (some x)).symm
  | app b x =>
    show setB (setB (viewH h) b none) nb (some x.view)=viewH (setB (setB h b none) nb (some x))
    rw [setB_view,setB_view];rfl
theorem evOp2_sound (htt:TtOk P tt) (hng:ng≤nb) (e:evOp2 tt ng lim nb h ev o=some (v,u)):Good P w0 ng lim nb h ev o v u:=by
  obtain ⟨u0,e1,rfl⟩:=evOp2_eq e
  obtain ⟨g1,g2⟩:=evOp_sound (P:=P) (w0:=w0) htt hng e1
  have e2:u.view.nb nb=u.nb nb:=by cases u <;> rfl
  have e3:u.view.mod nb=u.mod nb:=by cases u <;> rfl
  have e4:u.view.old=u.old:=by cases u <;> rfl
  rw [e2,e3,up_view] at g1
  rw [e4] at g2
  refine ⟨fun n ro ρ w a K Q hw hop hfr hK=>g1 n ro ρ w a K Q (wr_view hw) hop hfr fun v ρ' w' q1 q2 q3=>hK v ρ' w' q1 (wr_unview q2) q3,fun b hb=>?_⟩
  obtain ⟨h1,z,h2⟩:=g2 b hb
  refine ⟨h1,?_⟩
  unfold viewH at h2
  split at h2
  · rename_i y hy;exact ⟨y,hy⟩
  · cases h2
-- axioms of evOp2_sound
end
end Go.Vx
end
section
namespace Go.Vx
open Go.Ax
open Go.RowKit (Below)
structure Sx where
  h:Tr Blk
  nb:Nat
def Sx.f (S:Sx) (b:Nat):Option Blk:=S.h.get b
inductive Tg where
  | f (g:FuncId)
  | y (b:Nat)
abbrev CallF:=Tg→List VV→Nat→Sx→Option (VV×Sx)
def Up.ap (S:Sx):Up→Option Sx
  | .no=>some S
  | .set b x=>ifB (Tr.fits b && Nat.ble (b+1) S.nb) (some ⟨S.h.set b (some x),S.nb⟩)
  | .new x=>ifB (Tr.fits S.nb) (some ⟨S.h.set S.nb (some x),S.nb+1⟩)
  | .app b x=>ifB (Tr.fits b && Tr.fits S.nb && Nat.ble (b+1) S.nb) (some ⟨(S.h.set b none).set S.nb (some x),S.nb+1⟩)
theorem ap_eq {S S':Sx} {u:Up} (e:u.ap S=some S'):S'.f=u.h S.nb S.f∧S'.nb=u.nb S.nb∧∀b,u.old=some b→b < S.nb:=by
  unfold Up.ap at e
  split at e
  · cases e;exact ⟨rfl,rfl,fun _ h=>by cases h⟩
  · obtain ⟨h1,e⟩:=ifB_eq e
    cases e
    obtain ⟨h1,h2⟩:=and_t h1
    refine ⟨funext fun m=>?_,rfl,fun _ h=>by cases h;exact le_t h2⟩
    show (S.h.set _ _).get m=_
    rw [Tr.get_set h1];rfl
  · obtain ⟨h1,e⟩:=ifB_eq e
    cases e
    refine ⟨funext fun m=>?_,rfl,fun _ h=>by cases h⟩
    show (S.h.set _ _).get m=_
    rw [Tr.get_set h1];rfl
  · obtain ⟨h1,e⟩:=ifB_eq e
    cases e
    obtain ⟨h1,h3⟩:=and_t h1
    obtain ⟨h1,h2⟩:=and_t h1
    refine ⟨funext fun m=>?_,rfl,fun _ h=>by cases h;exact le_t h3⟩
    show ((S.h.set _ _).set _ _).get m=_
    rw [Tr.get_set h2,Tr.get_set h1];rfl
theorem ap_frame {S S':Sx} {u:Up} {lim:Nat} (e:u.ap S=some S') (hlim:lim≤S.nb) (hold:∀b,u.old=some b→lim≤b):∀b,¬(lim≤b∧b < S'.nb)→S'.f b=S.f b:=by
  obtain ⟨a1,a2,a3⟩:=ap_eq e
  intro b hb
  rw [a1]
  rw [a2] at hb
  cases u with
  | no=>rfl
  | set c x =>
    have h1:=hold c rfl
    have h2:=a3 c rfl
    have:b≠c:=fun e=>hb (by subst e;exact ⟨h1,h2⟩)
    simp [Up.h,setB,this]
  | new x =>
    have:b≠S.nb:=fun e=>hb (by subst e;exact ⟨hlim,Nat.lt_succ_self _⟩)
    simp [Up.h,setB,this]
  | app c x =>
    have h1:=hold c rfl
    have h2:=a3 c rfl
    have e1:b≠S.nb:=fun e=>hb (by subst e;exact ⟨hlim,Nat.lt_succ_self _⟩)
    have e2:b≠c:=fun e=>hb (by subst e;exact ⟨h1,Nat.lt_succ_of_lt h2⟩)
    simp [Up.h,setB,e1,e2]
section
variable (tt:TypeId→Option TyI) (ng:Nat) (call:CallF)
def evOpr (lim:Nat) (S:Sx) (ev:Operand→VV) (o:Oper):Option (VV×Sx):=
  match o.op with
  | .call { callee := .value f, args := args, argTypes := _ } => match ev f with
    | .fn (.func g) xs ys=>call (.f g) (xs++args.toList.map ev++ys) lim S
    | .yl b => match S.f b with
      | some _=>call (.y b) (args.toList.map ev) lim S
      | none=>none
    | _=>none
  | _ => match evOp2 tt ng lim S.nb S.f ev o with
    | some (v, u) => match u.ap S with
      | some S'=>some (v,S')
      | none=>none
    | none=>none
end
def Ret (w0:World) (ng:Nat) (ρ:Nat→Ph) (w:World) (lim:Nat) (S':Sx) (r:VV) (v:Value) (w':World):Prop:=
  ∃ρ',r.R ρ' v∧WR w0 ng ρ' S'.f w'∧Eff ρ w ρ' w' (fun b=>lim≤b∧b < S'.nb)
def TgR (ρ:Nat→Ph) (vs:List Value) (m:Sem Next):Tg→Prop
  | .f g=>m=callFunc g vs.toArray
  | .y b=>∃k s,ρ b= .live k s∧m=Instr.yield k vs.toArray
def CallOk (P:Program) (w0:World) (ng:Nat) (call:CallF):Prop:=
  ∀tg xs lim S r S',call tg xs lim S=some (r,S')→ng≤S.nb→lim≤S.nb→S.nb≤S'.nb∧(∀b,¬(lim≤b∧b < S'.nb)→S'.f b=S.f b)∧
    ∀(n:Nat) (ro:Option Nat) (ρ:Nat→Ph) (w:World) (vs:List Value) (m:Sem Next),WR w0 ng ρ S.f w→(∀b,S.nb≤b→b < S'.nb→ρ b= .fresh)→Rs ρ xs vs→TgR ρ vs m tg→
      ∀(o:Oper) (a:Act) (next:Act→World→Prop) (Q:Exit→Act→World→Prop),(∀v w',Ret w0 ng ρ w lim S' r v w'→next (a.put o.dst v) w')→o.uponIn (WF ro) n P a next Q (m.run P w)
section
variable {P:Program} {w0:World} {ng:Nat} {tt:TypeId→Option TyI} {call:CallF}
theorem evOpr_sound (htt:TtOk P tt) (hcall:CallOk P w0 ng call) {lim:Nat} {S S':Sx} {ev:Operand→VV} {o:Oper} {r:VV} (hng:ng≤S.nb) (hlim:lim≤S.nb) (e:evOpr tt ng call lim S ev o=some (r,S')) :
    S.nb≤S'.nb∧(∀b,¬(lim≤b∧b < S'.nb)→S'.f b=S.f b)∧∀(n:Nat) (ro:Option Nat) (ρ:Nat→Ph) (w:World) (a:Act) (K:Act→World→Prop) (Q:Exit→Act→World→Prop),WR w0 ng ρ S.f w→(∀b,S.nb≤b→b < S'.nb→ρ b= .fresh)→(∀x∈o.op.operands,(ev x).R ρ (a.eval x))→
      (∀v w',Ret w0 ng ρ w lim S' r v w'→K (a.put o.dst v) w')→o.wpIn (WF ro) n P a w K Q:=by
  unfold evOpr at e
  split at e
  · rename_i f args ats ho
    have hd:∀c,o.op≠.defer c:=fun c hc=>by rw [ho] at hc;cases hc
    have hops:∀(ρ:Nat→Ph) (a:Act),(∀x∈o.op.operands,(ev x).R ρ (a.eval x))→(ev f).R ρ (a.eval f)∧Rs ρ (args.toList.map ev) (args.toList.map a.eval):=fun ρ a h=>by
      refine ⟨h f (by rw [ho];simp [Op.operands,Call.operands]),Rs.map _ fun y hy=>h y ?_⟩
      rw [ho]
      show y∈#[f]++args
      exact Array.mem_append.2 (.inr (by simpa using hy))
    split at e
    · rename_i g xs ys hf
      obtain ⟨h1,h1',h2⟩:=hcall _ _ _ _ _ _ e hng hlim
      refine ⟨h1,h1',fun n ro ρ w a K Q hw hfr hop hK=>⟨fun _ _=>trivial,?_⟩⟩
      obtain ⟨g1,g2⟩:=hops ρ a hop
      rw [hf] at g1
      obtain ⟨us,vs,g3,g4,g5⟩:=g1
      rw [Oper.semAt_eq _ _ _ hd]
      have e1:(us++args.toList.map a.eval++vs).toArray=us.toArray++args.map a.eval++vs.toArray:=by
        apply Array.ext';simp
      have hrun:(execOp a.eval o).run P w=(callFunc g (us++args.toList.map a.eval++vs).toArray).run P w:=by
        rw [e1]
        unfold execOp
        rw [ho]
        dsimp only
        simp only [resolve,g3,Deferred.ofValue,Sem.run_bind,Sem.run_pure,Result.andThen_ok,invoke]
      rw [hrun]
      exact h2 n ro ρ w _ _ hw hfr ((g4.append g2).append g5) rfl o a K Q hK
    · rename_i b hf
      split at e
      · rename_i z hb
        obtain ⟨h1,h1',h2⟩:=hcall _ _ _ _ _ _ e hng hlim
        refine ⟨h1,h1',fun n ro ρ w a K Q hw hfr hop hK=>⟨fun _ _=>trivial,?_⟩⟩
        obtain ⟨g1,g2⟩:=hops ρ a hop
        obtain ⟨k,s,hk,_⟩:=hw.blk b z hb
        rw [hf] at g1
        obtain ⟨g3,g1⟩:=g1
        rw [hk] at g1
        dsimp only at g1
        rw [Oper.semAt_eq _ _ _ hd]
        have e1:(args.toList.map a.eval).toArray=args.map a.eval:=by
          apply Array.ext';simp
        have hrun:(execOp a.eval o).run P w=(Instr.yield k (args.toList.map a.eval).toArray).run P w:=by
          rw [e1]
          unfold execOp
          rw [ho]
          dsimp only
          simp only [resolve,g1,Deferred.ofValue,Sem.run_bind,Sem.run_pure,Result.andThen_ok,invoke,Array.empty_append]
        rw [hrun]
        exact h2 n ro ρ w _ _ hw hfr g2 ⟨k,s,hk,rfl⟩ o a K Q hK
      · cases e
    · cases e
  · split at e
    · rename_i v u he
      split at e
      · rename_i S1 hap
        cases e
        obtain ⟨a1,a2,a3⟩:=ap_eq hap
        obtain ⟨g1,g2⟩:=evOp2_sound (P:=P) (w0:=w0) htt hng he
        have hnb:S.nb≤S'.nb:=by rw [a2];cases u <;> simp [Up.nb]
        refine ⟨hnb,ap_frame hap hlim fun b hb=>(g2 b hb).1,fun n ro ρ w a K Q hw hfr hop hK=>g1 n ro ρ w a K Q hw hop (fun b hb hb'=>hfr b hb (by rw [a2];exact hb')) fun v' ρ' w' q1 q2 q3=>hK v' w' ⟨ρ',q1,by rw [a1];exact q2,q3.mono fun b hb=>?_⟩⟩
        rw [a2]
        cases u with
        | no=>exact absurd hb id
        | set c x=>have hb:b=c:=hb;subst hb;exact ⟨(g2 b rfl).1,a3 b rfl⟩
        | new x=>have hb:b=S.nb:=hb;subst hb;exact ⟨hlim,Nat.lt_succ_self _⟩
        | app c x =>
          have hb:b=c∨b=S.nb:=hb
          rcases hb with rfl|rfl
          · exact ⟨(g2 b rfl).1,Nat.lt_succ_of_lt (a3 b rfl)⟩
          · exact ⟨hlim,Nat.lt_succ_self _⟩
      · cases e
    · cases e
end
end Go.Vx
end
