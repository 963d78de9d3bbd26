/- Lemmas on the program and its library: part ZW21. -/
import Derived.Test.YtoiejgkkcfkliaaGreatDoorZShelf
import Derived.Test.YtoiejgkkcfkliaaGreatDoorZTxt2
set_option linter.unusedVariables false
set_option linter.unusedSimpArgs false
section
set_option maxHeartbeats 4000000
set_option maxRecDepth 100000
namespace Go.Proofs
open Go.Ax
open Go.RowKit (Below)
theorem b88 (a b:List UInt8):bs a++bs b=bs (a++b):=by
  apply ByteArray.ext
  rw [ByteArray.data_append]
  simp
theorem d2k (z:Int):Lib.itoa z=r6 z:=by
  unfold Lib.itoa r6
  split
  · rfl
  · rw [show z.toNat=z.natAbs by omega]
theorem c74 (z:Int) (h1:-9223372036854775808≤z) (h2:z < 9223372036854775808):Ax.Pure Tryz.prog G 259 [smA z] (S (bs (r6 z))):=by
  have c_it:Ax.Pure Tryz.prog G 280 [N z] (S (bs (r6 z))):=by rw [←d2k];exact e1a z h1 h2
  refine r8 Tryz.func259 rfl Tryz.ntmps259 ?_
  intro w0 E0 hc
  repeat' (first|(with_reducible first|refine j0 ?_|refine zr0 hc ?_|refine zm0 hc ?_|refine zwk ?_|refine i6 ?_|refine zgo ?_|refine zbn ?_|refine zge Tryz.results259 ?_|refine Sub.refl _|refine f9|refine w6 (out':=?_) ?_|refine u9 (y:=?_) ?_|refine w5 (eo':=?_) ?_)|(with_reducible refine f6 ?_ ?_;focus (first|decide|omega))|(with_reducible first|refine zg2 ?_ ?_|refine c9 c_it ?_ ?_|refine zbo ?_|refine zg3 ?_ (fun h=>?_) (fun h=>?_)|refine zg4 (fun h=>?_) (fun h=>?_)|fail)|(omega;done))
theorem c03 (u:Nat) (hu:u < 18446744073709551616):Ax.Pure Tryz.prog G 281 [U u,N 10] (S (bs (Lib.decDigits u))):=by
  refine r8 Tryz.func281 rfl Tryz.ntmps281 ?_
  intro w0 E0 hc
  repeat' (first|(with_reducible first|refine j0 ?_|refine zr0 hc ?_|refine zm0 hc ?_|refine zwk ?_|refine i6 ?_|refine zgo ?_|refine zbn ?_|refine zge Tryz.results281 ?_|refine Sub.refl _|refine f9|refine w6 (out':=?_) ?_|refine u9 (y:=?_) ?_|refine w5 (eo':=?_) ?_)|(with_reducible refine f6 ?_ ?_;focus (first|decide|omega))|(with_reducible first|refine zg2 ?_ ?_|refine c9 (c2z _ ?_) ?_ ?_|refine zbo ?_|refine zg3 ?_ (fun h=>?_) (fun h=>?_)|refine zg4 (fun h=>?_) (fun h=>?_)|fail)|(omega;done))
theorem e01 (n:Nat) (h:n≤1000000000000):Go.RowKit.wrap64 ((n:Int) - 1)=(n:Int) - 1:=by
  unfold Go.RowKit.wrap64;omega
def a4f (ls:List (List UInt8)):List UInt8:=ls.reverse.flatten
theorem a65 (ls:List (List UInt8)) (x:List UInt8):a4f (ls++ [x])=x++a4f ls:=by simp [a4f]
def c5c (n m:Nat) (ls:List (List UInt8)):Prop:=(0 < m→Lib.decDigits n=Lib.decDigits m++a4f ls)∧(m=0→Lib.decDigits n=a4f ls)∧ls.length≤(a4f ls).length
theorem c8z {n:Nat} (h:0 < n):c5c n n []:=⟨fun _=>by simp [a4f],fun e=>by omega,Nat.zero_le _⟩
theorem c8y {n m:Nat} {ls:List (List UInt8)} (h:c5c n m ls) (hm:0 < m) :
    c5c n (m / 1000000000000000000) (ls++ [if 0 < m / 1000000000000000000 then a09 18 (m%1000000000000000000) else Lib.decDigits (m%1000000000000000000)]):=by
  have h1:=h.1 hm
  have hr:m%1000000000000000000 < 10 ^ 18:=Nat.mod_lt _ (by decide)
  have hl:=b09 (m%1000000000000000000)
  refine ⟨fun h0=>?_,fun h0=>?_,?_⟩
  · rw [if_pos h0,a65,←List.append_assoc,←b2w h0 (by decide) _ hr,h1]
    congr 2
    have:=Nat.div_add_mod m 1000000000000000000
    omega
  · rw [if_neg (by omega),a65,h1]
    congr 2
    have:=Nat.div_add_mod m 1000000000000000000
    omega
  · rw [a65,List.length_append,List.length_append,List.length_singleton]
    have:=h.2.2
    split
    · have:0 < (a09 18 (m%1000000000000000000)).length:=by unfold a09;rw [List.length_append];omega
      omega
    · omega
theorem e1g {z:Int} {k:Nat} (hz:zl z≤k) (h0:0 < k):(Lib.decDigits z.natAbs).length≤20*k:=
  a0p (Nat.lt_of_lt_of_le (c01 z) (Nat.le_trans (Nat.pow_le_pow_right (by decide) hz) (by rw [Nat.pow_mul];exact Nat.pow_le_pow_left (by decide) _))) (by omega)
theorem c73 (z:Int) (h:9223372036854775808≤z.natAbs) (hz:zl z≤1000000):Ax.Pure Tryz.prog G 259 [bgA z] (S (bs (r6 z))):=by
  have c_pa:=a01 z h
  have hBB:BB=18446744073709551616:=rfl
  have d18:f7 BB 1000000000000000000= [1000000000000000000]:=b8j (by decide) ⟨by simp [hBB],by simp⟩ (by simp [val])
  have c_dv:∀m:Nat,m≤z.natAbs→Ax.Pure Tryz.prog G 244 [L (y7 (f7 BB m)),L [1000000000000000000]] (.tup [L (y7 (f7 BB (m / 1000000000000000000))),L (y7 (f7 BB (m%1000000000000000000)))]):=fun m hm=>by
    have hl:(f7 BB m).length≤1000000:=by
      have:=a13 (x:=(m:Int)) (y:=z) (by simpa using hm)
      unfold zl at this hz
      simp only [Int.natAbs_natCast] at this
      omega
    have:=b06 (f7 BB m) (f7 BB 1000000000000000000) (j5 (by decide) _) (j5 (by decide) _) (by rw [d18];simp) (by omega) (by rw [d18];decide)
    rw [j8 (by decide),j8 (by decide),d18] at this
    exact this
  refine r8 Tryz.func259 rfl Tryz.ntmps259 ?_
  intro w0 E0 hc
  have hzn:zl z=(f7 BB z.natAbs).length:=rfl
  have hlen:(Lib.decDigits z.natAbs).length≤20000000:=e1g hz (by decide)
  repeat' (first|(with_reducible first|refine j0 ?_|refine zwk ?_|refine i6 ?_|refine zgo ?_|refine zbn ?_|refine zge Tryz.results259 ?_|refine Sub.refl _|refine f9|refine w6 (out':=?_) ?_|refine u9 (y:=?_) ?_|refine w5 (eo':=?_) ?_)|(with_reducible refine zrs [5] hc ?_ ?_;focus (with_unfolding_all rfl))|(with_reducible refine zrm [5] hc mixed ?_ ?_;focus (with_unfolding_all rfl))|(with_reducible refine f6 ?_ ?_;focus (first|decide|omega))|(with_reducible first|refine zg2 ?_ ?_|refine c9 c_pa ?_ ?_|refine zbo ?_|refine zg3 ?_ (fun h=>?_) (fun h=>?_)|refine zg4 (fun h=>?_) (fun h=>?_)|fail)|(omega;done))
  refine e02 (fun st'=>∃p:List (List UInt8)×Nat,p.1.length≤p.2∧0 < p.1.length∧a4f p.1=Lib.decDigits z.natAbs∧p.1.length≤(a4f p.1).length∧a1r 0 st' (n5 [(3,Bo (decide (z < 0))),(6,.one (.gr 1 1 p.1.length p.2))] [(1,⟨1,p.2,b2p (p.1.map bs),true⟩)] 2)) ?_ ?_
  rotate_left 1
  · rintro st ⟨⟨ls,cc⟩,hcc,h0,hj,hjl,hw⟩
    refine m7 hw ?_
    intro E a w s
    have hsz:a.tmps.size=69:=s.size.trans (by rw [Tryz.ntmps259])
    obtain ⟨kb,h6,hkb,hcells⟩:=s.texts (t:=6) (b:=1) (ls:=ls.map bs) (n:=ls.length) (cc:=cc) rfl rfl (by simp) hcc h0
    have h3:a.tmps.getD 3 undef= .bool (decide (z < 0)):=by
      obtain ⟨_,h,_⟩:=s.slots 3
      injection h
    obtain ⟨tm,df⟩:=a
    have hdf:df= []:=s.defers
    dsimp only at hsz h6 h3
    obtain ⟨l⟩:=tm
    obtain ⟨x0,x1,x2,x3,x4,x5,x6,x7,x8,x9,x10,x11,x12,x13,x14,x15,x16,x17,x18,x19,x20,x21,x22,x23,x24,x25,x26,x27,x28,x29,x30,x31,x32,x33,x34,x35,x36,x37,x38,x39,x40,x41,x42,x43,x44,x45,x46,x47,x48,x49,x50,x51,x52,x53,x54,x55,x56,x57,x58,x59,x60,x61,x62,x63,x64,x65,x66,x67,x68,hl⟩:∃x0 x1 x2 x3 x4 x5 x6 x7 x8 x9 x10 x11 x12 x13 x14 x15 x16 x17 x18 x19 x20 x21 x22 x23 x24 x25 x26 x27 x28 x29 x30 x31 x32 x33 x34 x35 x36 x37 x38 x39 x40 x41 x42 x43 x44 x45 x46 x47 x48 x49 x50 x51 x52 x53 x54 x55 x56 x57 x58 x59 x60 x61 x62 x63 x64 x65 x66 x67 x68:Value,l= [x0,x1,x2,x3,x4,x5,x6,x7,x8,x9,x10,x11,x12,x13,x14,x15,x16,x17,x18,x19,x20,x21,x22,x23,x24,x25,x26,x27,x28,x29,x30,x31,x32,x33,x34,x35,x36,x37,x38,x39,x40,x41,x42,x43,x44,x45,x46,x47,x48,x49,x50,x51,x52,x53,x54,x55,x56,x57,x58,x59,x60,x61,x62,x63,x64,x65,x66,x67,x68]:=⟨_,_,_,_,_,_,_,_,_,_,_,_,_,_,_,_,_,_,_,_,_,_,_,_,_,_,_,_,_,_,_,_,_,_,_,_,_,_,_,_,_,_,_,_,_,_,_,_,_,_,_,_,_,_,_,_,_,_,_,_,_,_,_,_,_,_,_,_,_,a74 hsz⟩
    subst hl hdf
    have h3:x3=_:=h3
    have h6:x6=_:=h6
    subst h3 h6
    dsimp only at hj hjl h0 hcells hkb ⊢
    have hlsl:ls.length≤1000000000:=by rw [hj] at hjl;omega
    have hl20:(r6 z).length≤20000001:=by
      unfold r6
      split
      · rw [List.length_cons];omega
      · omega
    refine wp_mono (Q:=fun e a' w'=>e= .ret∧(a'.tmps.size=69∧a'.defers= []∧a'.tmps.getD 2 undef= .string (bs (r6 z)))∧Below w.heap.size w w') ?_ ?_
    rotate_left 1
    · rintro e a' w' ⟨rfl,⟨g1,g2,g3⟩,g4⟩
      refine ⟨_,E,s.last (d:=2) (g1.trans (by rw [Tryz.ntmps259])) g2 g3 rfl g4,?_⟩
      exact c6d Tryz.results259 ⟨trivial,Sub.refl _⟩
    have c_w:=fun (l:List UInt8) (x:ByteArray) (W:World) (h1:Lib.IsBuilder 281 5 w.heap.size w.heap.size (Lib.byteCells l) W) (h2:l.length+x.size≤140737488355328) (h3:w.heap.size≤W.heap.size)=>
      Any.Builder_WriteString (ρ:=Tryz.lays105_ren) { Tryz.lays105 with } Tryz.Builder_Extra_105 w.heap.size w.heap.size (Lib.byteCells l) x W h1 (by rw [Lib.byteCells_length];exact h2) h3
    have c_s:=fun (l:List UInt8) (W:World) (h1:Lib.IsBuilder 281 5 w.heap.size w.heap.size (Lib.byteCells l) W) (h3:w.heap.size≤W.heap.size)=>
      Any.Builder_String_any (ρ:=Tryz.lays105_ren) { Tryz.lays105 with } Tryz.Builder_Extra_105 w.heap.size w.heap.size l W h1 h3
    clear s c_dv c_pa d18
    have t281:=Tryz.underlying281;have a281:=Tryz.isAgg281;have z281:=Tryz.sizeOf281;have v281:=Tryz.zeroValue281
    have t9:=Tryz.underlying9;have a9:=Tryz.isAgg9;have z9:=Tryz.sizeOf9;have v9:=Tryz.zeroValue9
    have t3:=Tryz.underlying3;have a3:=Tryz.isAgg3;have z3:=Tryz.sizeOf3;have v3:=Tryz.zeroValue3
    have t276:=Tryz.underlying276;have a276:=Tryz.isAgg276;have z276:=Tryz.sizeOf276;have v276:=Tryz.zeroValue276
    obtain ⟨acc0,hacc0,hI0⟩:∃acc0:List UInt8,acc0=(if z < 0 then [45] else [])∧acc0++a4f ls=r6 z:=⟨_,rfl,by rw [hj];unfold r6;split <;> rfl⟩
    have fr:=Lib.fresh_isBuilder 281 5 w
    have frb:=(Below.refl _ w).alloc (Nat.le_refl _) (Obj.cells #[.pointer none,.slice none 0 0] 281)
    by_cases hz0:z < 0
    · rw [decide_eq_true hz0]
      rw [if_pos hz0] at hacc0
      go_wp2_with (go_at_call 283;refine (c_w [] ⟨#[45]⟩ _ fr (by decide) frb.size).mono ?_)
      intro e W1 he h1 b1
      subst he
      go_wp2
      go_loopw [11] (fun v wr=>∃(i:Nat) (acc:List UInt8),v= .int .i64 ((i:Int) - 1)∧i≤ls.length∧Lib.IsBuilder 281 5 w.heap.size w.heap.size (Lib.byteCells acc) wr∧Below w.heap.size w wr∧acc++a4f (ls.take i)=r6 z) (fun v wr=>match v with| .int _ x=>(x+1).toNat|_=>0)
      case atStart=>
        refine ⟨ls.length,acc0,by first|rfl|exact congrArg _ (e01 _ (by omega)),Nat.le_refl _,by rw [hacc0];exact .inr h1,frb.trans b1,by rw [List.take_length];exact hI0⟩
      case round=>
        obtain ⟨i,acc,rfl,hi,hI,hb,hacc⟩:=hrel
        have hal:acc.length+(a4f (ls.take i)).length≤20000001:=by rw [←hacc,List.length_append] at hl20;omega
        rcases Nat.eq_zero_or_pos i with rfl|hi0
        · rw [show ((0:Nat):Int) - 1= -1 from rfl]
          go_wp2_with (go_at_call 284;refine (c_s acc _ hI hb.size).mono ?_)
          intro e W1 hh
          obtain ⟨he,b1⟩:=hh
          subst he
          go_wp2
          exact ⟨by rw [←hacc];simp [a4f],hb.trans b1⟩
        · obtain ⟨i,rfl⟩:∃j,i=j+1:=⟨i - 1,by omega⟩
          rw [show ((i+1:Nat):Int) - 1=i by omega]
          obtain ⟨x,hx⟩:∃x,ls[i]?=some x:=⟨ls[i],List.getElem?_eq_getElem (by omega)⟩
          have htk:a4f (ls.take (i+1))=x++a4f (ls.take i):=by rw [List.take_add_one,hx,Option.toList_some,a65]
          rw [htk] at hacc hal
          rw [List.length_append] at hal
          have hcell:wr.cell? ⟨kb,i,none⟩=some (.string (bs x)):=by
            have:=hcells i (by omega)
            rw [List.getD_eq_getElem?_getD,List.getElem?_map,hx] at this
            exact (World.cell?_of_block (w:=w) (hb.block kb hkb)).trans this
          have hxs:=m6 x
          go_wp2_with (go_at_call 283;refine (c_w acc (bs x) _ hI (by omega) hb.size).mono ?_)
          intro e W1 hh
          obtain ⟨he,h1,b1⟩:=hh
          subst he
          go_wp2
          refine ⟨⟨i,acc++x,rfl,by omega,.inr ?_,hb.trans b1,by rw [List.append_assoc];exact hacc⟩,?_⟩
          · rw [Lib.byteCells_append];exact h1
          · dsimp only;omega
    · rw [decide_eq_false hz0]
      go_wp2
      go_loopw [11] (fun v wr=>∃(i:Nat) (acc:List UInt8),v= .int .i64 ((i:Int) - 1)∧i≤ls.length∧Lib.IsBuilder 281 5 w.heap.size w.heap.size (Lib.byteCells acc) wr∧Below w.heap.size w wr∧acc++a4f (ls.take i)=r6 z) (fun v wr=>match v with| .int _ x=>(x+1).toNat|_=>0)
      case atStart=>
        refine ⟨ls.length,acc0,by first|rfl|exact congrArg _ (e01 _ (by omega)),Nat.le_refl _,by rw [hacc0,if_neg (by omega)];exact fr,frb,by rw [List.take_length];exact hI0⟩
      case round=>
        obtain ⟨i,acc,rfl,hi,hI,hb,hacc⟩:=hrel
        have hal:acc.length+(a4f (ls.take i)).length≤20000001:=by rw [←hacc,List.length_append] at hl20;omega
        rcases Nat.eq_zero_or_pos i with rfl|hi0
        · rw [show ((0:Nat):Int) - 1= -1 from rfl]
          go_wp2_with (go_at_call 284;refine (c_s acc _ hI hb.size).mono ?_)
          intro e W1 hh
          obtain ⟨he,b1⟩:=hh
          subst he
          go_wp2
          exact ⟨by rw [←hacc];simp [a4f],hb.trans b1⟩
        · obtain ⟨i,rfl⟩:∃j,i=j+1:=⟨i - 1,by omega⟩
          rw [show ((i+1:Nat):Int) - 1=i by omega]
          obtain ⟨x,hx⟩:∃x,ls[i]?=some x:=⟨ls[i],List.getElem?_eq_getElem (by omega)⟩
          have htk:a4f (ls.take (i+1))=x++a4f (ls.take i):=by rw [List.take_add_one,hx,Option.toList_some,a65]
          rw [htk] at hacc hal
          rw [List.length_append] at hal
          have hcell:wr.cell? ⟨kb,i,none⟩=some (.string (bs x)):=by
            have:=hcells i (by omega)
            rw [List.getD_eq_getElem?_getD,List.getElem?_map,hx] at this
            exact (World.cell?_of_block (w:=w) (hb.block kb hkb)).trans this
          have hxs:=m6 x
          go_wp2_with (go_at_call 283;refine (c_w acc (bs x) _ hI (by omega) hb.size).mono ?_)
          intro e W1 hh
          obtain ⟨he,h1,b1⟩:=hh
          subst he
          go_wp2
          refine ⟨⟨i,acc++x,rfl,by omega,.inr ?_,hb.trans b1,by rw [List.append_assoc];exact hacc⟩,?_⟩
          · rw [Lib.byteCells_append];exact h1
          · dsimp only;omega
  repeat' (first|(with_reducible first|refine j0 ?_|refine zr0 hc ?_|refine zm0 hc ?_|refine zwk ?_|refine i6 ?_|refine zgo ?_|refine zbn ?_|refine zge Tryz.results259 ?_|refine Sub.refl _|refine f9|refine w6 (out':=?_) ?_|refine u9 (y:=?_) ?_|refine w5 (eo':=?_) ?_)|(with_reducible refine f6 ?_ ?_;focus (first|decide|omega))|(with_reducible first|refine zg2 ?_ ?_|refine c9 c_pa ?_ ?_|refine zbo ?_|refine zg3 ?_ (fun h=>?_) (fun h=>?_)|refine zg4 (fun h=>?_) (fun h=>?_)|fail)|(omega;done))
  refine m9 (α:=Nat×List (List UInt8)×Nat) (fun p=>n5 [(3,Bo (decide (z < 0))),(4,L (y7 (f7 BB p.1))),(5,L [1000000000000000000]),(6,.one (.gr 1 1 p.2.1.length p.2.2))] [(1,⟨1,p.2.2,b2p (p.2.1.map bs),true⟩)] 2)
    (fun p=>p.1≤z.natAbs∧p.2.1.length≤p.2.2∧c5c z.natAbs p.1 p.2.1) (fun p=>p.1) (z.natAbs,[],0) ⟨Nat.le_refl _,Nat.le_refl _,c8z (by omega)⟩ ?_ ?_
  · refine zW2 ?_ <;> repeat' (with_reducible first|exact trivial|refine j3 ?_ ?_|refine t7 (fun i hi=>?_))
    exact a3p [1000000000000000000]
  rintro ⟨m,ls,cc⟩ ⟨hm,hcc,hP⟩
  dsimp only at hm hcc hP ⊢
  have c_dvm:=c_dv m hm
  have hls:ls.length≤20000000:=by
    have:=hP.2.2
    rcases Nat.eq_zero_or_pos m with h0|h0
    · have:=hP.2.1 h0;rw [this] at hlen;omega
    · have:=hP.1 h0;rw [this,List.length_append] at hlen;omega
  have lm:=m5 (f7 BB m)
  obtain ⟨r,hr⟩:∃r,r=m%1000000000000000000:=⟨_,rfl⟩
  have hrl:r < 1000000000000000000:=by rw [hr];exact Nat.mod_lt _ (by decide)
  obtain ⟨q,hq⟩:∃q,q=m / 1000000000000000000:=⟨_,rfl⟩
  rw [←hr,←hq] at c_dvm
  have hst:=fun h0:0 < m=>c8y hP h0
  rw [←hr,←hq] at hst
  have lr:=m5 (f7 BB r)
  have lq:=m5 (f7 BB q)
  have pos:∀n:Nat,(0 < (((y7 (f7 BB n)).length:Nat):Int))↔0 < n:=fun n=>by
    rw [m5]
    constructor
    · intro h
      refine Nat.pos_of_ne_zero fun e=>?_
      rw [e,a9e] at h
      exact absurd h (by decide)
    · intro h
      have:=a2f (B:=BB) (n:=n) (by decide)
      rcases Nat.eq_zero_or_pos (f7 BB n).length with h0|h0
      · have:=this.1 (List.length_eq_zero_iff.1 h0);omega
      · omega
  have c_fu:0 < (((y7 (f7 BB r)).length:Nat):Int)→Ax.Pure Tryz.prog G 281 [U ((y7 (f7 BB r)).getD 0 0),N 10] (S (bs (Lib.decDigits r))):=fun h0=>by
    have e:f7 BB r= [r]:=b8j (by decide) ⟨by simp [hBB];omega,by simp;have:=(pos r).1 h0;omega⟩ (by simp [val])
    rw [e]
    exact c03 r (by omega)
  have dl:(Lib.decDigits r).length≤18:=a0p (by rw [show 10 ^ 18=1000000000000000000 from rfl];exact hrl) (by decide)
  have c_rp:Ax.Pure Tryz.prog G 282 [S ⟨#[48]⟩,N (IntKind.i64.wrap (18 - (((bs (Lib.decDigits r)).size:Nat):Int)))] (S (bs (List.replicate (18 - (Lib.decDigits r).length) 48))):=by
    rw [m6,w64 (by omega) (by omega),show (18:Int) - ((Lib.decDigits r).length:Nat)=((18 - (Lib.decDigits r).length:Nat):Int) by omega]
    have:=d5g ⟨#[48]⟩ (18 - (Lib.decDigits r).length) (by omega) (by rw [show (⟨#[48]⟩:ByteArray).size=1 from rfl];omega)
    rwa [show (⟨#[48]⟩:ByteArray).data.toList= [48] from rfl,c63] at this
  have c_rp0:r=0→Ax.Pure Tryz.prog G 282 [S ⟨#[48]⟩,N (IntKind.i64.wrap (18 - (((⟨#[48]⟩:ByteArray).size:Nat):Int)))] (S (bs (List.replicate (18 - (Lib.decDigits r).length) 48))):=fun h0=>by
    have e:(bs (Lib.decDigits r)).size=(⟨#[48]⟩:ByteArray).size:=by rw [h0,a3z]
    rw [e] at c_rp
    exact c_rp
  have rs:(bs (List.replicate (18 - (Lib.decDigits r).length) 48)).size=18 - (Lib.decDigits r).length:=by rw [m6,List.length_replicate]
  have ds:=m6 (Lib.decDigits r)
  have S1:(bs (List.replicate (18 - (Lib.decDigits r).length) 48)).size+(bs (Lib.decDigits r)).size≤9223372036854775807∧true=true:=⟨by omega,rfl⟩
  have S2:(bs (List.replicate (18 - (Lib.decDigits r).length) 48)).size+(⟨#[48]⟩:ByteArray).size≤9223372036854775807∧true=true:=⟨by rw [rs,show (⟨#[48]⟩:ByteArray).size=1 from rfl];omega,rfl⟩
  have P0:0 < 1∧true=true∧1=1∧1=1∧1≤16777216:=⟨by decide,rfl,rfl,rfl,by decide⟩
  repeat' (first|(with_reducible first|refine j0 ?_|refine zr0 hc ?_|refine zm0 hc ?_|refine zwk ?_|refine i6 ?_|refine zgo ?_|refine zbn ?_|refine zge Tryz.results259 ?_|refine Sub.refl _|refine f9|refine w6 (out':=?_) ?_|refine u9 (y:=?_) ?_|refine w5 (eo':=?_) ?_)|(with_reducible refine f6 ?_ ?_;focus (first|decide|omega))|(with_reducible first|refine zg2 ?_ ?_|refine c9 c_dvm ?_ ?_|refine c9 (c_fu ?_) ?_ ?_|refine c9 c_rp ?_ ?_|refine c9 (c_rp0 ?_) ?_ ?_|refine zbo ?_|refine zg3 ?_ (fun h=>?_) (fun h=>?_)|refine zg4 (fun h=>?_) (fun h=>?_)|fail)|((first|omega|assumption|(have:=pos r;omega));done))
  rotate_right 1
  · have m0:m=0:=by have:=pos m;omega
    have hj:=hP.2.1 m0
    refine ⟨(ls,cc),hcc,?_,hj.symm,hP.2.2,?_⟩
    · cases ls with
      | nil=>exact absurd hj (a63 _)
      | cons _ _=>simp
    · refine zW2 ?_ <;> repeat' (with_reducible first|exact trivial|refine j3 ?_ ?_|refine t7 (fun i hi=>?_))
      exact b4j rfl (by decide)
  all_goals
    have m0:=(pos m).1 (by assumption)
    refine d2o hc 1 ls.length cc (ls.map bs) _ rfl rfl rfl rfl rfl rfl (.inr ⟨true,rfl⟩) (by simp) hcc (by omega) (by decide) ⟨P0,trivial⟩ fun c' hc'=>?_
    repeat' (first|(with_reducible first|refine j0 ?_|refine zr0 hc ?_|refine zm0 hc ?_|refine zwk ?_|refine i6 ?_|refine zgo ?_|refine zbn ?_|refine zge Tryz.results259 ?_|refine Sub.refl _|refine f9|refine w6 (out':=?_) ?_|refine u9 (y:=?_) ?_|refine w5 (eo':=?_) ?_)|(with_reducible refine f6 ?_ ?_;focus (first|decide|omega))|(with_reducible first|refine zg2 ?_ ?_|refine zbo ?_|refine zg3 ?_ (fun h=>?_) (fun h=>?_)|refine zg4 (fun h=>?_) (fun h=>?_)|fail)|(omega;done))
    have hi:=pos r
    have e0:r=0→(⟨#[48]⟩:ByteArray)=bs (Lib.decDigits r):=fun h=>by rw [h,a3z]
    have hq0:=pos q
    refine ⟨(q,ls++ [if 0 < q then a09 18 r else Lib.decDigits r],c'),⟨?_,?_,hst m0⟩,?_,?_⟩
    · exact Nat.le_trans (hq ▸ Nat.div_le_self _ _) hm
    · simp only [List.length_append,List.length_singleton];exact hc'
    · exact hq ▸ Nat.div_lt_self m0 (by decide)
    · refine zW2 ?_ <;> repeat' (with_reducible first|exact trivial|refine j3 ?_ ?_|refine t7 (fun i hi=>?_))
      all_goals first
        | (simp only [List.length_append,List.length_cons,List.length_nil];done)
        | (refine b4j ?_ ?_;rotate_left 1;exact rfl)
      all_goals first
        | rw [if_pos (hq0.1 (by assumption))]
        | rw [if_neg (fun e=>absurd (hq0.2 e) (by assumption))]
      all_goals
        rw [List.map_append]
        refine congrArg (fun x=>_++ [x]) ?_
        first
          | rfl
          | exact (b88 _ _)
          | (rw [e0 (by omega)];first|rfl|exact (b88 _ _))
end Go.Proofs
end
