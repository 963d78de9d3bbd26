/- Lemmas on the program and its library: part ZW21. -/
import Derived.Test.YtoiejgkkcfkliaaGreatDoorZShelf
import Derived.Test.YtoiejgkkcfkliaaGreatDoorZTxt2
set_option linter.unusedVariables false
set_option linter.unusedSimpArgs false
section
set_option maxHeartbeats 4000000
set_option maxRecDepth 100000
namespace Go.Proofs
open Go.Ax
open Go.RowKit (Below)
theorem bs_app (a b:List UInt8):bs a++bs b=bs (a++b):=by
  apply ByteArray.ext
  rw [ByteArray.data_append]
  simp
theorem itoa_intL (z:Int):Lib.itoa z=intL z:=by
  unfold Lib.itoa intL
  split
  · rfl
  · rw [show z.toNat=z.natAbs by omega]
theorem c_String_s (z:Int) (h1:-9223372036854775808≤z) (h2:z < 9223372036854775808):Ax.Pure Tryz.prog G 259 [smA z] (S (bs (intL z))):=by
  have c_it:Ax.Pure Tryz.prog G 280 [N z] (S (bs (intL z))):=by rw [←itoa_intL];exact c_Itoa z h1 h2
  refine zen Tryz.func259 rfl Tryz.ntmps259 ?_
  intro w0 E0 hc
  repeat' (first|(with_reducible first|refine Wp_seq ?_|refine zr0 hc ?_|refine zm0 hc ?_|refine zwk ?_|refine Wp_block ?_|refine zgo ?_|refine zbn ?_|refine zge Tryz.results259 ?_|refine Sub.refl _|refine allP_nil|refine zoa1 (out':=?_) ?_|refine zca1 (y:=?_) ?_|refine zea1 (eo':=?_) ?_)|(with_reducible refine allP_cons ?_ ?_;focus (first|decide|omega))|(with_reducible first|refine zg2 ?_ ?_|refine zoc c_it ?_ ?_|refine zbo ?_|refine zg3 ?_ (fun h=>?_) (fun h=>?_)|refine zg4 (fun h=>?_) (fun h=>?_)|fail)|(omega;done))
theorem c_FormatUint' (u:Nat) (hu:u < 18446744073709551616):Ax.Pure Tryz.prog G 281 [U u,N 10] (S (bs (Lib.decDigits u))):=by
  refine zen Tryz.func281 rfl Tryz.ntmps281 ?_
  intro w0 E0 hc
  repeat' (first|(with_reducible first|refine Wp_seq ?_|refine zr0 hc ?_|refine zm0 hc ?_|refine zwk ?_|refine Wp_block ?_|refine zgo ?_|refine zbn ?_|refine zge Tryz.results281 ?_|refine Sub.refl _|refine allP_nil|refine zoa1 (out':=?_) ?_|refine zca1 (y:=?_) ?_|refine zea1 (eo':=?_) ?_)|(with_reducible refine allP_cons ?_ ?_;focus (first|decide|omega))|(with_reducible first|refine zg2 ?_ ?_|refine zoc (c_FormatUint _ ?_) ?_ ?_|refine zbo ?_|refine zg3 ?_ (fun h=>?_) (fun h=>?_)|refine zg4 (fun h=>?_) (fun h=>?_)|fail)|(omega;done))
theorem wrapS (n:Nat) (h:n≤1000000000000):Go.RowKit.wrap64 ((n:Int) - 1)=(n:Int) - 1:=by
  unfold Go.RowKit.wrap64;omega
def joinR (ls:List (List UInt8)):List UInt8:=ls.reverse.flatten
theorem joinR_snoc (ls:List (List UInt8)) (x:List UInt8):joinR (ls++ [x])=x++joinR ls:=by simp [joinR]
def Parts (n m:Nat) (ls:List (List UInt8)):Prop:=(0 < m→Lib.decDigits n=Lib.decDigits m++joinR ls)∧(m=0→Lib.decDigits n=joinR ls)∧ls.length≤(joinR ls).length
theorem parts_zero {n:Nat} (h:0 < n):Parts n n []:=⟨fun _=>by simp [joinR],fun e=>by omega,Nat.zero_le _⟩
theorem parts_step {n m:Nat} {ls:List (List UInt8)} (h:Parts n m ls) (hm:0 < m) :
    Parts n (m / 1000000000000000000) (ls++ [if 0 < m / 1000000000000000000 then decPad 18 (m%1000000000000000000) else Lib.decDigits (m%1000000000000000000)]):=by
  have h1:=h.1 hm
  have hr:m%1000000000000000000 < 10 ^ 18:=Nat.mod_lt _ (by decide)
  have hl:=dec_len_pos (m%1000000000000000000)
  refine ⟨fun h0=>?_,fun h0=>?_,?_⟩
  · rw [if_pos h0,joinR_snoc,←List.append_assoc,←decPad_append h0 (by decide) _ hr,h1]
    congr 2
    have:=Nat.div_add_mod m 1000000000000000000
    omega
  · rw [if_neg (by omega),joinR_snoc,h1]
    congr 2
    have:=Nat.div_add_mod m 1000000000000000000
    omega
  · rw [joinR_snoc,List.length_append,List.length_append,List.length_singleton]
    have:=h.2.2
    split
    · have:0 < (decPad 18 (m%1000000000000000000)).length:=by unfold decPad;rw [List.length_append];omega
      omega
    · omega
theorem dec_zl {z:Int} {k:Nat} (hz:zl z≤k) (h0:0 < k):(Lib.decDigits z.natAbs).length≤20*k:=
  dec_len_le (Nat.lt_of_lt_of_le (zl_lt z) (Nat.le_trans (Nat.pow_le_pow_right (by decide) hz) (by rw [Nat.pow_mul];exact Nat.pow_le_pow_left (by decide) _))) (by omega)
theorem c_String_b (z:Int) (h:9223372036854775808≤z.natAbs) (hz:zl z≤1000000):Ax.Pure Tryz.prog G 259 [bgA z] (S (bs (intL z))):=by
  have c_pa:=c_parts_b z h
  have hBB:BB=18446744073709551616:=rfl
  have d18:digs BB 1000000000000000000= [1000000000000000000]:=digs_of (by decide) ⟨by simp [hBB],by simp⟩ (by simp [val])
  have c_dv:∀m:Nat,m≤z.natAbs→Ax.Pure Tryz.prog G 244 [L (toI (digs BB m)),L [1000000000000000000]] (.tup [L (toI (digs BB (m / 1000000000000000000))),L (toI (digs BB (m%1000000000000000000)))]):=fun m hm=>by
    have hl:(digs BB m).length≤1000000:=by
      have:=zl_mono (x:=(m:Int)) (y:=z) (by simpa using hm)
      unfold zl at this hz
      simp only [Int.natAbs_natCast] at this
      omega
    have:=c_divide (digs BB m) (digs BB 1000000000000000000) (digs_dig (by decide) _) (digs_dig (by decide) _) (by rw [d18];simp) (by omega) (by rw [d18];decide)
    rw [digs_val (by decide),digs_val (by decide),d18] at this
    exact this
  refine zen Tryz.func259 rfl Tryz.ntmps259 ?_
  intro w0 E0 hc
  have hzn:zl z=(digs BB z.natAbs).length:=rfl
  have hlen:(Lib.decDigits z.natAbs).length≤20000000:=dec_zl hz (by decide)
  repeat' (first|(with_reducible first|refine Wp_seq ?_|refine zwk ?_|refine Wp_block ?_|refine zgo ?_|refine zbn ?_|refine zge Tryz.results259 ?_|refine Sub.refl _|refine allP_nil|refine zoa1 (out':=?_) ?_|refine zca1 (y:=?_) ?_|refine zea1 (eo':=?_) ?_)|(with_reducible refine zrs [5] hc ?_ ?_;focus (with_unfolding_all rfl))|(with_reducible refine zrm [5] hc mixed ?_ ?_;focus (with_unfolding_all rfl))|(with_reducible refine allP_cons ?_ ?_;focus (first|decide|omega))|(with_reducible first|refine zg2 ?_ ?_|refine zoc c_pa ?_ ?_|refine zbo ?_|refine zg3 ?_ (fun h=>?_) (fun h=>?_)|refine zg4 (fun h=>?_) (fun h=>?_)|fail)|(omega;done))
  refine Wp_cut (fun st'=>∃p:List (List UInt8)×Nat,p.1.length≤p.2∧0 < p.1.length∧joinR p.1=Lib.decDigits z.natAbs∧p.1.length≤(joinR p.1).length∧Weaker 0 st' (stOf [(3,Bo (decide (z < 0))),(6,.one (.gr 1 1 p.1.length p.2))] [(1,⟨1,p.2,rowS (p.1.map bs),true⟩)] 2)) ?_ ?_
  rotate_left 1
  · rintro st ⟨⟨ls,cc⟩,hcc,h0,hj,hjl,hw⟩
    refine Wp_weaker hw ?_
    intro E a w s
    have hsz:a.tmps.size=69:=s.size.trans (by rw [Tryz.ntmps259])
    obtain ⟨kb,h6,hkb,hcells⟩:=s.texts (t:=6) (b:=1) (ls:=ls.map bs) (n:=ls.length) (cc:=cc) rfl rfl (by simp) hcc h0
    have h3:a.tmps.getD 3 undef= .bool (decide (z < 0)):=by
      obtain ⟨_,h,_⟩:=s.slots 3
      injection h
    obtain ⟨tm,df⟩:=a
    have hdf:df= []:=s.defers
    dsimp only at hsz h6 h3
    obtain ⟨l⟩:=tm
    obtain ⟨x0,x1,x2,x3,x4,x5,x6,x7,x8,x9,x10,x11,x12,x13,x14,x15,x16,x17,x18,x19,x20,x21,x22,x23,x24,x25,x26,x27,x28,x29,x30,x31,x32,x33,x34,x35,x36,x37,x38,x39,x40,x41,x42,x43,x44,x45,x46,x47,x48,x49,x50,x51,x52,x53,x54,x55,x56,x57,x58,x59,x60,x61,x62,x63,x64,x65,x66,x67,x68,hl⟩:∃x0 x1 x2 x3 x4 x5 x6 x7 x8 x9 x10 x11 x12 x13 x14 x15 x16 x17 x18 x19 x20 x21 x22 x23 x24 x25 x26 x27 x28 x29 x30 x31 x32 x33 x34 x35 x36 x37 x38 x39 x40 x41 x42 x43 x44 x45 x46 x47 x48 x49 x50 x51 x52 x53 x54 x55 x56 x57 x58 x59 x60 x61 x62 x63 x64 x65 x66 x67 x68:Value,l= [x0,x1,x2,x3,x4,x5,x6,x7,x8,x9,x10,x11,x12,x13,x14,x15,x16,x17,x18,x19,x20,x21,x22,x23,x24,x25,x26,x27,x28,x29,x30,x31,x32,x33,x34,x35,x36,x37,x38,x39,x40,x41,x42,x43,x44,x45,x46,x47,x48,x49,x50,x51,x52,x53,x54,x55,x56,x57,x58,x59,x60,x61,x62,x63,x64,x65,x66,x67,x68]:=⟨_,_,_,_,_,_,_,_,_,_,_,_,_,_,_,_,_,_,_,_,_,_,_,_,_,_,_,_,_,_,_,_,_,_,_,_,_,_,_,_,_,_,_,_,_,_,_,_,_,_,_,_,_,_,_,_,_,_,_,_,_,_,_,_,_,_,_,_,_,vals_of_len hsz⟩
    subst hl hdf
    have h3:x3=_:=h3
    have h6:x6=_:=h6
    subst h3 h6
    dsimp only at hj hjl h0 hcells hkb ⊢
    have hlsl:ls.length≤1000000000:=by rw [hj] at hjl;omega
    have hl20:(intL z).length≤20000001:=by
      unfold intL
      split
      · rw [List.length_cons];omega
      · omega
    refine wp_mono (Q:=fun e a' w'=>e= .ret∧(a'.tmps.size=69∧a'.defers= []∧a'.tmps.getD 2 undef= .string (bs (intL z)))∧Below w.heap.size w w') ?_ ?_
    rotate_left 1
    · rintro e a' w' ⟨rfl,⟨g1,g2,g3⟩,g4⟩
      refine ⟨_,E,s.last (d:=2) (g1.trans (by rw [Tryz.ntmps259])) g2 g3 rfl g4,?_⟩
      exact ends_ret Tryz.results259 ⟨trivial,Sub.refl _⟩
    have c_w:=fun (l:List UInt8) (x:ByteArray) (W:World) (h1:Lib.IsBuilder 281 5 w.heap.size w.heap.size (Lib.byteCells l) W) (h2:l.length+x.size≤140737488355328) (h3:w.heap.size≤W.heap.size)=>
      Any.Builder_WriteString (ρ:=Tryz.lays105_ren) { Tryz.lays105 with } Tryz.Builder_Extra_105 w.heap.size w.heap.size (Lib.byteCells l) x W h1 (by rw [Lib.byteCells_length];exact h2) h3
    have c_s:=fun (l:List UInt8) (W:World) (h1:Lib.IsBuilder 281 5 w.heap.size w.heap.size (Lib.byteCells l) W) (h3:w.heap.size≤W.heap.size)=>
      Any.Builder_String_any (ρ:=Tryz.lays105_ren) { Tryz.lays105 with } Tryz.Builder_Extra_105 w.heap.size w.heap.size l W h1 h3
    clear s c_dv c_pa d18
    have t281:=Tryz.underlying281;have a281:=Tryz.isAgg281;have z281:=Tryz.sizeOf281;have v281:=Tryz.zeroValue281
    have t9:=Tryz.underlying9;have a9:=Tryz.isAgg9;have z9:=Tryz.sizeOf9;have v9:=Tryz.zeroValue9
    have t3:=Tryz.underlying3;have a3:=Tryz.isAgg3;have z3:=Tryz.sizeOf3;have v3:=Tryz.zeroValue3
    have t276:=Tryz.underlying276;have a276:=Tryz.isAgg276;have z276:=Tryz.sizeOf276;have v276:=Tryz.zeroValue276
    obtain ⟨acc0,hacc0,hI0⟩:∃acc0:List UInt8,acc0=(if z < 0 then [45] else [])∧acc0++joinR ls=intL z:=⟨_,rfl,by rw [hj];unfold intL;split <;> rfl⟩
    have fr:=Lib.fresh_isBuilder 281 5 w
    have frb:=(Below.refl _ w).alloc (Nat.le_refl _) (Obj.cells #[.pointer none,.slice none 0 0] 281)
    by_cases hz0:z < 0
    · rw [decide_eq_true hz0]
      rw [if_pos hz0] at hacc0
      go_wp2_with (go_at_call 283;refine (c_w [] ⟨#[45]⟩ _ fr (by decide) frb.size).mono ?_)
      intro e W1 he h1 b1
      subst he
      go_wp2
      go_loopw [11] (fun v wr=>∃(i:Nat) (acc:List UInt8),v= .int .i64 ((i:Int) - 1)∧i≤ls.length∧Lib.IsBuilder 281 5 w.heap.size w.heap.size (Lib.byteCells acc) wr∧Below w.heap.size w wr∧acc++joinR (ls.take i)=intL z) (fun v wr=>match v with| .int _ x=>(x+1).toNat|_=>0)
      case atStart=>
        refine ⟨ls.length,acc0,by first|rfl|exact congrArg _ (wrapS _ (by omega)),Nat.le_refl _,by rw [hacc0];exact .inr h1,frb.trans b1,by rw [List.take_length];exact hI0⟩
      case round=>
        obtain ⟨i,acc,rfl,hi,hI,hb,hacc⟩:=hrel
        have hal:acc.length+(joinR (ls.take i)).length≤20000001:=by rw [←hacc,List.length_append] at hl20;omega
        rcases Nat.eq_zero_or_pos i with rfl|hi0
        · rw [show ((0:Nat):Int) - 1= -1 from rfl]
          go_wp2_with (go_at_call 284;refine (c_s acc _ hI hb.size).mono ?_)
          intro e W1 hh
          obtain ⟨he,b1⟩:=hh
          subst he
          go_wp2
          exact ⟨by rw [←hacc];simp [joinR],hb.trans b1⟩
        · obtain ⟨i,rfl⟩:∃j,i=j+1:=⟨i - 1,by omega⟩
          rw [show ((i+1:Nat):Int) - 1=i by omega]
          obtain ⟨x,hx⟩:∃x,ls[i]?=some x:=⟨ls[i],List.getElem?_eq_getElem (by omega)⟩
          have htk:joinR (ls.take (i+1))=x++joinR (ls.take i):=by rw [List.take_add_one,hx,Option.toList_some,joinR_snoc]
          rw [htk] at hacc hal
          rw [List.length_append] at hal
          have hcell:wr.cell? ⟨kb,i,none⟩=some (.string (bs x)):=by
            have:=hcells i (by omega)
            rw [List.getD_eq_getElem?_getD,List.getElem?_map,hx] at this
            exact (World.cell?_of_block (w:=w) (hb.block kb hkb)).trans this
          have hxs:=bs_size x
          go_wp2_with (go_at_call 283;refine (c_w acc (bs x) _ hI (by omega) hb.size).mono ?_)
          intro e W1 hh
          obtain ⟨he,h1,b1⟩:=hh
          subst he
          go_wp2
          refine ⟨⟨i,acc++x,rfl,by omega,.inr ?_,hb.trans b1,by rw [List.append_assoc];exact hacc⟩,?_⟩
          · rw [Lib.byteCells_append];exact h1
          · dsimp only;omega
    · rw [decide_eq_false hz0]
      go_wp2
      go_loopw [11] (fun v wr=>∃(i:Nat) (acc:List UInt8),v= .int .i64 ((i:Int) - 1)∧i≤ls.length∧Lib.IsBuilder 281 5 w.heap.size w.heap.size (Lib.byteCells acc) wr∧Below w.heap.size w wr∧acc++joinR (ls.take i)=intL z) (fun v wr=>match v with| .int _ x=>(x+1).toNat|_=>0)
      case atStart=>
        refine ⟨ls.length,acc0,by first|rfl|exact congrArg _ (wrapS _ (by omega)),Nat.le_refl _,by rw [hacc0,if_neg (by omega)];exact fr,frb,by rw [List.take_length];exact hI0⟩
      case round=>
        obtain ⟨i,acc,rfl,hi,hI,hb,hacc⟩:=hrel
        have hal:acc.length+(joinR (ls.take i)).length≤20000001:=by rw [←hacc,List.length_append] at hl20;omega
        rcases Nat.eq_zero_or_pos i with rfl|hi0
        · rw [show ((0:Nat):Int) - 1= -1 from rfl]
          go_wp2_with (go_at_call 284;refine (c_s acc _ hI hb.size).mono ?_)
          intro e W1 hh
          obtain ⟨he,b1⟩:=hh
          subst he
          go_wp2
          exact ⟨by rw [←hacc];simp [joinR],hb.trans b1⟩
        · obtain ⟨i,rfl⟩:∃j,i=j+1:=⟨i - 1,by omega⟩
          rw [show ((i+1:Nat):Int) - 1=i by omega]
          obtain ⟨x,hx⟩:∃x,ls[i]?=some x:=⟨ls[i],List.getElem?_eq_getElem (by omega)⟩
          have htk:joinR (ls.take (i+1))=x++joinR (ls.take i):=by rw [List.take_add_one,hx,Option.toList_some,joinR_snoc]
          rw [htk] at hacc hal
          rw [List.length_append] at hal
          have hcell:wr.cell? ⟨kb,i,none⟩=some (.string (bs x)):=by
            have:=hcells i (by omega)
            rw [List.getD_eq_getElem?_getD,List.getElem?_map,hx] at this
            exact (World.cell?_of_block (w:=w) (hb.block kb hkb)).trans this
          have hxs:=bs_size x
          go_wp2_with (go_at_call 283;refine (c_w acc (bs x) _ hI (by omega) hb.size).mono ?_)
          intro e W1 hh
          obtain ⟨he,h1,b1⟩:=hh
          subst he
          go_wp2
          refine ⟨⟨i,acc++x,rfl,by omega,.inr ?_,hb.trans b1,by rw [List.append_assoc];exact hacc⟩,?_⟩
          · rw [Lib.byteCells_append];exact h1
          · dsimp only;omega
  repeat' (first|(with_reducible first|refine Wp_seq ?_|refine zr0 hc ?_|refine zm0 hc ?_|refine zwk ?_|refine Wp_block ?_|refine zgo ?_|refine zbn ?_|refine zge Tryz.results259 ?_|refine Sub.refl _|refine allP_nil|refine zoa1 (out':=?_) ?_|refine zca1 (y:=?_) ?_|refine zea1 (eo':=?_) ?_)|(with_reducible refine allP_cons ?_ ?_;focus (first|decide|omega))|(with_reducible first|refine zg2 ?_ ?_|refine zoc c_pa ?_ ?_|refine zbo ?_|refine zg3 ?_ (fun h=>?_) (fun h=>?_)|refine zg4 (fun h=>?_) (fun h=>?_)|fail)|(omega;done))
  refine Wp_loopI (α:=Nat×List (List UInt8)×Nat) (fun p=>stOf [(3,Bo (decide (z < 0))),(4,L (toI (digs BB p.1))),(5,L [1000000000000000000]),(6,.one (.gr 1 1 p.2.1.length p.2.2))] [(1,⟨1,p.2.2,rowS (p.2.1.map bs),true⟩)] 2)
    (fun p=>p.1≤z.natAbs∧p.2.1.length≤p.2.2∧Parts z.natAbs p.1 p.2.1) (fun p=>p.1) (z.natAbs,[],0) ⟨Nat.le_refl _,Nat.le_refl _,parts_zero (by omega)⟩ ?_ ?_
  · refine zwa1 (l1:=?_) (h1:=?_) ?_ ?_ <;> (repeat' (first|(with_reducible first|exact slotsOk_nil|exact boxesOk_nil|refine slotsOk_eq ?_ ?_|refine slotsOk_cons ?_ ?_ ?_|refine boxesOk_none rfl ?_)|(with_reducible refine boxesOk_cons_t rfl (fun i hi=>?_) ?_ (fun i hi=>?_) ?_;focus (first|exact rowG_cl _|(simp [AV.cl,clL,Leaf.cl,clV];done)))|(with_reducible first|refine boxesOk_one rfl ?_ ?_ ?_|refine boxesOk_cons rfl (fun i hi=>?_) ?_ (fun i hi=>?_) ?_|refine sub_int ?_|refine sub_own_eq ?_ ?_|refine sub_gr_eq ?_ ?_|exact sub_nil_gr|exact sub_own_gr)|(first|omega|(simp only [IntKind.wrap_i64,IntKind.wrap_u64,List.length_append,List.length_singleton,List.length_cons,List.length_nil];omega))|((first|show AV.cl _ _|show clL _ _);simp [AV.cl,clL,Leaf.cl,clV];done)|(dsimp only [ite00];done)|(with_reducible first|exact SubLv.refl _|refine subLv_int ?_ ?_|refine subLv_frac ?_ ?_)|(dsimp only [ite00];with_reducible exact SubLv.refl _)|fail))
    exact sub_row_list [1000000000000000000]
  rintro ⟨m,ls,cc⟩ ⟨hm,hcc,hP⟩
  dsimp only at hm hcc hP ⊢
  have c_dvm:=c_dv m hm
  have hls:ls.length≤20000000:=by
    have:=hP.2.2
    rcases Nat.eq_zero_or_pos m with h0|h0
    · have:=hP.2.1 h0;rw [this] at hlen;omega
    · have:=hP.1 h0;rw [this,List.length_append] at hlen;omega
  have lm:=toI_len (digs BB m)
  obtain ⟨r,hr⟩:∃r,r=m%1000000000000000000:=⟨_,rfl⟩
  have hrl:r < 1000000000000000000:=by rw [hr];exact Nat.mod_lt _ (by decide)
  obtain ⟨q,hq⟩:∃q,q=m / 1000000000000000000:=⟨_,rfl⟩
  rw [←hr,←hq] at c_dvm
  have hst:=fun h0:0 < m=>parts_step hP h0
  rw [←hr,←hq] at hst
  have lr:=toI_len (digs BB r)
  have lq:=toI_len (digs BB q)
  have pos:∀n:Nat,(0 < (((toI (digs BB n)).length:Nat):Int))↔0 < n:=fun n=>by
    rw [toI_len]
    constructor
    · intro h
      refine Nat.pos_of_ne_zero fun e=>?_
      rw [e,digs_zero] at h
      exact absurd h (by decide)
    · intro h
      have:=digs_nil (B:=BB) (n:=n) (by decide)
      rcases Nat.eq_zero_or_pos (digs BB n).length with h0|h0
      · have:=this.1 (List.length_eq_zero_iff.1 h0);omega
      · omega
  have c_fu:0 < (((toI (digs BB r)).length:Nat):Int)→Ax.Pure Tryz.prog G 281 [U ((toI (digs BB r)).getD 0 0),N 10] (S (bs (Lib.decDigits r))):=fun h0=>by
    have e:digs BB r= [r]:=digs_of (by decide) ⟨by simp [hBB];omega,by simp;have:=(pos r).1 h0;omega⟩ (by simp [val])
    rw [e]
    exact c_FormatUint' r (by omega)
  have dl:(Lib.decDigits r).length≤18:=dec_len_le (by rw [show 10 ^ 18=1000000000000000000 from rfl];exact hrl) (by decide)
  have c_rp:Ax.Pure Tryz.prog G 282 [S ⟨#[48]⟩,N (IntKind.i64.wrap (18 - (((bs (Lib.decDigits r)).size:Nat):Int)))] (S (bs (List.replicate (18 - (Lib.decDigits r).length) 48))):=by
    rw [bs_size,w64 (by omega) (by omega),show (18:Int) - ((Lib.decDigits r).length:Nat)=((18 - (Lib.decDigits r).length:Nat):Int) by omega]
    have:=c_Repeat ⟨#[48]⟩ (18 - (Lib.decDigits r).length) (by omega) (by rw [show (⟨#[48]⟩:ByteArray).size=1 from rfl];omega)
    rwa [show (⟨#[48]⟩:ByteArray).data.toList= [48] from rfl,repeatL_one] at this
  have c_rp0:r=0→Ax.Pure Tryz.prog G 282 [S ⟨#[48]⟩,N (IntKind.i64.wrap (18 - (((⟨#[48]⟩:ByteArray).size:Nat):Int)))] (S (bs (List.replicate (18 - (Lib.decDigits r).length) 48))):=fun h0=>by
    have e:(bs (Lib.decDigits r)).size=(⟨#[48]⟩:ByteArray).size:=by rw [h0,dec_zero]
    rw [e] at c_rp
    exact c_rp
  have rs:(bs (List.replicate (18 - (Lib.decDigits r).length) 48)).size=18 - (Lib.decDigits r).length:=by rw [bs_size,List.length_replicate]
  have ds:=bs_size (Lib.decDigits r)
  have S1:(bs (List.replicate (18 - (Lib.decDigits r).length) 48)).size+(bs (Lib.decDigits r)).size≤9223372036854775807∧true=true:=⟨by omega,rfl⟩
  have S2:(bs (List.replicate (18 - (Lib.decDigits r).length) 48)).size+(⟨#[48]⟩:ByteArray).size≤9223372036854775807∧true=true:=⟨by rw [rs,show (⟨#[48]⟩:ByteArray).size=1 from rfl];omega,rfl⟩
  have P0:0 < 1∧true=true∧1=1∧1=1∧1≤16777216:=⟨by decide,rfl,rfl,rfl,by decide⟩
  repeat' (first|(with_reducible first|refine Wp_seq ?_|refine zr0 hc ?_|refine zm0 hc ?_|refine zwk ?_|refine Wp_block ?_|refine zgo ?_|refine zbn ?_|refine zge Tryz.results259 ?_|refine Sub.refl _|refine allP_nil|refine zoa1 (out':=?_) ?_|refine zca1 (y:=?_) ?_|refine zea1 (eo':=?_) ?_)|(with_reducible refine allP_cons ?_ ?_;focus (first|decide|omega))|(with_reducible first|refine zg2 ?_ ?_|refine zoc c_dvm ?_ ?_|refine zoc (c_fu ?_) ?_ ?_|refine zoc c_rp ?_ ?_|refine zoc (c_rp0 ?_) ?_ ?_|refine zbo ?_|refine zg3 ?_ (fun h=>?_) (fun h=>?_)|refine zg4 (fun h=>?_) (fun h=>?_)|fail)|((first|omega|assumption|(have:=pos r;omega));done))
  rotate_right 1
  · have m0:m=0:=by have:=pos m;omega
    have hj:=hP.2.1 m0
    refine ⟨(ls,cc),hcc,?_,hj.symm,hP.2.2,?_⟩
    · cases ls with
      | nil=>exact absurd hj (dec_ne_nil _)
      | cons _ _=>simp
    · refine zwa1 (l1:=?_) (h1:=?_) ?_ ?_ <;> (repeat' (first|(with_reducible first|exact slotsOk_nil|exact boxesOk_nil|refine slotsOk_eq ?_ ?_|refine slotsOk_cons ?_ ?_ ?_|refine boxesOk_none rfl ?_)|(with_reducible refine boxesOk_cons_t rfl (fun i hi=>?_) ?_ (fun i hi=>?_) ?_;focus (first|exact rowG_cl _|(simp [AV.cl,clL,Leaf.cl,clV];done)))|(with_reducible first|refine boxesOk_one rfl ?_ ?_ ?_|refine boxesOk_cons rfl (fun i hi=>?_) ?_ (fun i hi=>?_) ?_|refine sub_int ?_|refine sub_own_eq ?_ ?_|refine sub_gr_eq ?_ ?_|exact sub_nil_gr|exact sub_own_gr)|(first|omega|(simp only [IntKind.wrap_i64,IntKind.wrap_u64,List.length_append,List.length_singleton,List.length_cons,List.length_nil];omega))|((first|show AV.cl _ _|show clL _ _);simp [AV.cl,clL,Leaf.cl,clV];done)|(dsimp only [ite00];done)|(with_reducible first|exact SubLv.refl _|refine subLv_int ?_ ?_|refine subLv_frac ?_ ?_)|(dsimp only [ite00];with_reducible exact SubLv.refl _)|fail))
      exact boxesOk_rowS rfl (by decide)
  all_goals
    have m0:=(pos m).1 (by assumption)
    refine outK_appS hc 1 ls.length cc (ls.map bs) _ rfl rfl rfl rfl rfl rfl (.inr ⟨true,rfl⟩) (by simp) hcc (by omega) (by decide) ⟨P0,trivial⟩ fun c' hc'=>?_
    repeat' (first|(with_reducible first|refine Wp_seq ?_|refine zr0 hc ?_|refine zm0 hc ?_|refine zwk ?_|refine Wp_block ?_|refine zgo ?_|refine zbn ?_|refine zge Tryz.results259 ?_|refine Sub.refl _|refine allP_nil|refine zoa1 (out':=?_) ?_|refine zca1 (y:=?_) ?_|refine zea1 (eo':=?_) ?_)|(with_reducible refine allP_cons ?_ ?_;focus (first|decide|omega))|(with_reducible first|refine zg2 ?_ ?_|refine zbo ?_|refine zg3 ?_ (fun h=>?_) (fun h=>?_)|refine zg4 (fun h=>?_) (fun h=>?_)|fail)|(omega;done))
    have hi:=pos r
    have e0:r=0→(⟨#[48]⟩:ByteArray)=bs (Lib.decDigits r):=fun h=>by rw [h,dec_zero]
    have hq0:=pos q
    refine ⟨(q,ls++ [if 0 < q then decPad 18 r else Lib.decDigits r],c'),⟨?_,?_,hst m0⟩,?_,?_⟩
    · exact Nat.le_trans (hq ▸ Nat.div_le_self _ _) hm
    · simp only [List.length_append,List.length_singleton];exact hc'
    · exact hq ▸ Nat.div_lt_self m0 (by decide)
    · refine zwa1 (l1:=?_) (h1:=?_) ?_ ?_ <;> (repeat' (first|(with_reducible first|exact slotsOk_nil|exact boxesOk_nil|refine slotsOk_eq ?_ ?_|refine slotsOk_cons ?_ ?_ ?_|refine boxesOk_none rfl ?_)|(with_reducible refine boxesOk_cons_t rfl (fun i hi=>?_) ?_ (fun i hi=>?_) ?_;focus (first|exact rowG_cl _|(simp [AV.cl,clL,Leaf.cl,clV];done)))|(with_reducible first|refine boxesOk_one rfl ?_ ?_ ?_|refine boxesOk_cons rfl (fun i hi=>?_) ?_ (fun i hi=>?_) ?_|refine sub_int ?_|refine sub_own_eq ?_ ?_|refine sub_gr_eq ?_ ?_|exact sub_nil_gr|exact sub_own_gr)|(first|omega|(simp only [IntKind.wrap_i64,IntKind.wrap_u64,List.length_append,List.length_singleton,List.length_cons,List.length_nil];omega))|((first|show AV.cl _ _|show clL _ _);simp [AV.cl,clL,Leaf.cl,clV];done)|(dsimp only [ite00];done)|(with_reducible first|exact SubLv.refl _|refine subLv_int ?_ ?_|refine subLv_frac ?_ ?_)|(dsimp only [ite00];with_reducible exact SubLv.refl _)|fail))
      all_goals first
        | (simp only [List.length_append,List.length_cons,List.length_nil];done)
        | (refine boxesOk_rowS ?_ ?_;rotate_left 1;exact rfl)
      all_goals first
        | rw [if_pos (hq0.1 (by assumption))]
        | rw [if_neg (fun e=>absurd (hq0.2 e) (by assumption))]
      all_goals
        rw [List.map_append]
        refine congrArg (fun x=>_++ [x]) ?_
        first
          | rfl
          | exact (bs_app _ _)
          | (rw [e0 (by omega)];first|rfl|exact (bs_app _ _))
end Go.Proofs
end
