/- Lemmas on the program and its library: part ZW31. -/
import Derived.Test.YtoiejgkkcfkliaaGreatDoorZW30
import Derived.Test.YtoiejgkkcfkliaaGreatDoorZW31t
set_option linter.unusedVariables false
set_option linter.unusedSimpArgs false
section
set_option maxHeartbeats 4000000
set_option maxRecDepth 1000000
namespace Go.Proofs
open Go.Ax
open Go.RowKit Go.Shelf
attribute [local go_sem] Oper.semAt_some
theorem b5l (o1 o2 o3 x1 x2 x3 y1 y2 y3 z1 z2 z3:Rat) (ho:okV o1 o2 o3) (hx:okV x1 x2 x3) (hy:okV y1 y2 y3) (hz0:okV z1 z2 z3):Ax.Pure Tryz.prog G 92 [tF (c5 o1) (c5 o2) (c5 o3) (c5 x1) (c5 x2) (c5 x3) (c5 y1) (c5 y2) (c5 y3) (c5 z1) (c5 z2) (c5 z3)] (N (axE x1 x2 x3 y1 y2 y3 z1 z2 z3)):=by
  have c_c:=b4t (v3 o1 o2 o3) (v3 x1 x2 x3) (v3 y1 y2 y3) (v3 z1 z2 z3) (a3l ho) (a3l hx) (a3l hy) (a3l hz0)
  rw [e1l (a6j ho) (a6j hx) (a6j hy) (a6j hz0)] at c_c
  have c_f:=b7u (k:=2400) (by decide) o1 o2 o3 x1 x2 x3 y1 y2 y3 z1 z2 z3 (s9 ho) (s9 hx) (s9 hy) (s9 hz0)
  refine c81 a1u Tryz.func92 rfl (by kernel_rfl) b1z ⟨by simp [clV,AV.cl,clL,i7.cl],by simp [AV.cl,clL,i7.cl,clV]⟩ (by rw [Tryz.ntmps92];exact of_decide_eq_true rfl) ?_
  intro w0 E0 hc hE0 hG0
  refine b8g ?_
  repeat' (first|refine n7 hc Tryz.results92 ?_|(with_reducible first|exact trivial|refine j3 ?_ ?_|refine m8 (fun h=>?_)|fail)|(omega;done))
  refine b8g ?_
  repeat' (first|refine n7 hc Tryz.results92 ?_|(with_reducible first|exact trivial|refine j3 ?_ ?_|refine m8 (fun h=>?_)|refine c9 c_c ?_ ?_|fail)|(omega;done))
  refine b8g ?_
  repeat' (first|refine n7 hc Tryz.results92 ?_|(with_reducible first|exact trivial|refine j3 ?_ ?_|refine m8 (fun h=>?_)|refine c9 c_f ?_ ?_|fail)|((first|omega|exact absurd rfl (by assumption));done))
  refine d3v ?_
  refine b8g ?_
  repeat' (first|refine n7 hc Tryz.results92 ?_|(with_reducible first|exact trivial|refine j3 ?_ ?_|refine m8 (fun h=>?_)|refine c9 (e1b _ _ _ _ _ _ _ _ _ _ _ _) ?_ ?_|fail)|(omega;done))
  refine c7v (st':=n5 [(2,.one (.ptr 1 1 0 0)),(4,.one (.ptr 2 48 0 0)),(22,.one (.fn (.func 240) [] [.pp [.frac o1,.frac o2,.frac o3,.frac x1,.frac x2,.frac x3,.frac y1,.frac y2,.frac y3,.frac z1,.frac z2,.frac z3]]))] [(1,⟨1,1,fun _=> [.v (.int .i64 0)],false⟩),(2,⟨48,1,fun _=> [.frac o1,.frac o2,.frac o3,.frac x1,.frac x2,.frac x3,.frac y1,.frac y2,.frac y3,.frac z1,.frac z2,.frac z3],false⟩)] 3) ?_ ?_
  · refine zW1 ?_ <;> repeat' (with_reducible first|exact trivial|refine j3 ?_ ?_|refine t7 (fun i hi=>?_))
  intro E a w s
  have hsz:a.tmps.size=41:=s.size.trans (by rw [Tryz.ntmps92])
  have hbelow:RowKit.Below w0.heap.size w0 w:=s.below.plain
  have hdone:∀(W:World) (D:Nat),RowKit.Below w.heap.size w W→w.heap.size≤D→W.heap[D]?=some (.deferred (some []))→(¬∃i,zv x1 x2 x3 y1 y2 y3 z1 z2 z3 i=true)→(c4s (c4s (c4s (c4s (c70 Tryz.f92))))).wp Tryz.prog (bodyPostM Fence.wide 5 Tryz.prog Tryz.f92 fun e w'=>∃v,e= .returned v∧RV E0 w' (N (axE x1 x2 x3 y1 y2 y3 z1 z2 z3)) v∧RowKit.Below w0.heap.size w0 w') { a with defers:=[{ target:=.collected D,args:=#[] }] } W:=by
    intro W D hB hD hK hno
    obtain ⟨hc',s'⟩:=s.later hc hB [{ target:=.collected D,args:=#[] }]
    refine wp_mono (c8h o1 o2 o3 x1 x2 x3 y1 y2 y3 z1 z2 z3 (s9 hx) (s9 hy) (s9 hz0) W E0 _ _ _ hc' hno E _ W s') ?_
    rintro e a' W' ⟨st',E',s2,rfl,ht,g,hbox,hg⟩
    obtain ⟨hd,⟨k,cs,T,h2,hh,h6⟩,hK',hB'⟩:=s.later_end hB s2 ht hbox hg hD hK
    show LeavesInM _ _ _ _ _ _ a'.defers _ _
    rw [hd]
    refine ⟨by simp,.inl ⟨_,_,rfl,run_takeDeferred hK',?_⟩⟩
    exact c64 (k2:=k) rfl hh h6 hK' rfl (c1p (Nat.le_trans hbelow.size hD) hK' hB') h2
  have hGw:G w:=b1z _ _ hbelow hG0
  obtain ⟨_,k2,hk2,h2⟩:=s.slots 2
  obtain ⟨_,k4,hk4,h4⟩:=s.slots 4
  obtain ⟨_,xs,ys,h22,hxs,hys⟩:=s.slots 22
  obtain rfl:xs= []:=hxs
  obtain ⟨ps,qs,rfl,⟨b,o,ds,rfl,hbok,hds,hrd⟩,rfl⟩:=hys
  obtain ⟨_,_,_,k2',hk2',hc2,hn2⟩|⟨k2',c2,T2,hk2',hc2,hs2,-⟩:=s.boxes 1 ⟨1,1,fun _=> [.v (.int .i64 0)],false⟩ rfl
  rw [hk2] at hk2'
  cases hk2'
  obtain ⟨_,q⟩|⟨k4',c4,T4,hk4',hc4,hs4,hes⟩:=s.boxes 2 ⟨48,1,fun _=> [.frac o1,.frac o2,.frac o3,.frac x1,.frac x2,.frac x3,.frac y1,.frac y2,.frac y3,.frac z1,.frac z2,.frac z3],false⟩ rfl
  · cases q
  rw [hk4] at hk4'
  cases hk4'
  obtain ⟨es,hes1,hes2,hes3⟩:=hes 0 Nat.zero_lt_one
  have hkw2:k2 < w.heap.size:=s.env.r 1 k2 hk2
  have hkw4:k4 < w.heap.size:=s.env.r 2 k4 hk4
  have how2:w0.heap.size≤k2:=by
    rcases s.own 1 k2 (Nat.zero_le _) hk2 with h|⟨h,_⟩
    · exact h
    · exact h.elim
  have hEw:=s.env
  have hdl:=(w7 hds).1
  have hd1:=(w7 hds).2
  have hel:=(w7 hes2).1
  obtain ⟨d0,d1,d2,d3,d4,d5,d6,d7,d8,d9,d10,d11,d12,d13,d14,d15,d16,d17,d18,d19,d20,d21,d22,d23,d24,d25,d26,d27,d28,d29,d30,d31,d32,d33,d34,d35,d36,d37,d38,d39,d40,d41,d42,d43,d44,d45,d46,d47,hdl⟩:∃d0 d1 d2 d3 d4 d5 d6 d7 d8 d9 d10 d11 d12 d13 d14 d15 d16 d17 d18 d19 d20 d21 d22 d23 d24 d25 d26 d27 d28 d29 d30 d31 d32 d33 d34 d35 d36 d37 d38 d39 d40 d41 d42 d43 d44 d45 d46 d47:Value,ds= [d0,d1,d2,d3,d4,d5,d6,d7,d8,d9,d10,d11,d12,d13,d14,d15,d16,d17,d18,d19,d20,d21,d22,d23,d24,d25,d26,d27,d28,d29,d30,d31,d32,d33,d34,d35,d36,d37,d38,d39,d40,d41,d42,d43,d44,d45,d46,d47]:=⟨_,_,_,_,_,_,_,_,_,_,_,_,_,_,_,_,_,_,_,_,_,_,_,_,_,_,_,_,_,_,_,_,_,_,_,_,_,_,_,_,_,_,_,_,_,_,_,_,a74 hdl⟩
  subst hdl
  obtain ⟨e0,e1,e2,e3,e4,e5,e6,e7,e8,e9,e10,e11,e12,e13,e14,e15,e16,e17,e18,e19,e20,e21,e22,e23,e24,e25,e26,e27,e28,e29,e30,e31,e32,e33,e34,e35,e36,e37,e38,e39,e40,e41,e42,e43,e44,e45,e46,e47,hel⟩:∃e0 e1 e2 e3 e4 e5 e6 e7 e8 e9 e10 e11 e12 e13 e14 e15 e16 e17 e18 e19 e20 e21 e22 e23 e24 e25 e26 e27 e28 e29 e30 e31 e32 e33 e34 e35 e36 e37 e38 e39 e40 e41 e42 e43 e44 e45 e46 e47:Value,es= [e0,e1,e2,e3,e4,e5,e6,e7,e8,e9,e10,e11,e12,e13,e14,e15,e16,e17,e18,e19,e20,e21,e22,e23,e24,e25,e26,e27,e28,e29,e30,e31,e32,e33,e34,e35,e36,e37,e38,e39,e40,e41,e42,e43,e44,e45,e46,e47]:=⟨_,_,_,_,_,_,_,_,_,_,_,_,_,_,_,_,_,_,_,_,_,_,_,_,_,_,_,_,_,_,_,_,_,_,_,_,_,_,_,_,_,_,_,_,_,_,_,_,a74 hel⟩
  subst hel
  obtain ⟨tm,df⟩:=a
  have hdf:df= []:=s.defers
  clear s
  dsimp only at hsz h2 h4 h22
  obtain ⟨tl⟩:=tm
  obtain ⟨p0,p1,p2,p3,p4,p5,p6,p7,p8,p9,p10,p11,p12,p13,p14,p15,p16,p17,p18,p19,p20,p21,p22,p23,p24,p25,p26,p27,p28,p29,p30,p31,p32,p33,p34,p35,p36,p37,p38,p39,p40,hl⟩:∃p0 p1 p2 p3 p4 p5 p6 p7 p8 p9 p10 p11 p12 p13 p14 p15 p16 p17 p18 p19 p20 p21 p22 p23 p24 p25 p26 p27 p28 p29 p30 p31 p32 p33 p34 p35 p36 p37 p38 p39 p40:Value,tl= [p0,p1,p2,p3,p4,p5,p6,p7,p8,p9,p10,p11,p12,p13,p14,p15,p16,p17,p18,p19,p20,p21,p22,p23,p24,p25,p26,p27,p28,p29,p30,p31,p32,p33,p34,p35,p36,p37,p38,p39,p40]:=⟨_,_,_,_,_,_,_,_,_,_,_,_,_,_,_,_,_,_,_,_,_,_,_,_,_,_,_,_,_,_,_,_,_,_,_,_,_,_,_,_,_,a74 hsz⟩
  subst hl hdf
  have q2:p2= .pointer (some ⟨k2,0,none⟩):=by injection h2
  have q4:p4= .pointer (some ⟨k4,0,none⟩):=by injection h4
  have q22:p22= .func (.func 240) #[] #[.pointer (some ⟨b,o,none⟩)]:=by injection h22
  clear h2 h4 h22;subst q2 q4 q22
  have cellW:∀W,RowKit.Below w.heap.size w W→∀(j:Nat) (v:Value),[d0,d1,d2,d3,d4,d5,d6,d7,d8,d9,d10,d11,d12,d13,d14,d15,d16,d17,d18,d19,d20,d21,d22,d23,d24,d25,d26,d27,d28,d29,d30,d31,d32,d33,d34,d35,d36,d37,d38,d39,d40,d41,d42,d43,d44,d45,d46,d47][j]?=some v→W.cell? ⟨b,o+j,none⟩=some v:=fun W hW j v hv=>
    (World.cell?_of_block (w:=w) (hW.block b hbok.1)).trans (hrd j v hv)
  have hv0:=b1w (ls':=[.frac x1,.frac x2,.frac x3]) (o:=12) (n:=12) hds (by with_unfolding_all rfl)
  have hv1:=b1w (ls':=[.frac y1,.frac y2,.frac y3]) (o:=24) (n:=12) hds (by with_unfolding_all rfl)
  have hv2:=b1w (ls':=[.frac z1,.frac z2,.frac z3]) (o:=36) (n:=12) hds (by with_unfolding_all rfl)
  have hz:∀(i:Fin 3) (W:World),RowKit.Below w.heap.size w W→Calls Tryz.prog 156 #[.agg ([#[d12,d13,d14,d15,d16,d17,d18,d19,d20,d21,d22,d23],#[d24,d25,d26,d27,d28,d29,d30,d31,d32,d33,d34,d35],#[d36,d37,d38,d39,d40,d41,d42,d43,d44,d45,d46,d47]].getD i.val #[])] W fun e W'=>e= .returned (.bool (zv x1 x2 x3 y1 y2 y3 z1 z2 z3 i))∧RowKit.Below W.heap.size W W':=by
    have hh:∀(p q r:Rat) (cs:List Value) (W:World),j7 E.shut w [.frac p,.frac q,.frac r] cs→RowKit.Below w.heap.size w W→Calls Tryz.prog 156 #[.agg cs.toArray] W fun e W'=>e= .returned (.bool (decide (p=0∧q=0∧r=0)))∧RowKit.Below W.heap.size W W':=fun p q r cs W hl hW=>by
      refine ((a60 p q r).use (E:=E.shut) (vs:=[.agg cs.toArray]) (hEw.below hW.size).shut (b1z _ _ hW hGw) ⟨_,_,rfl,⟨cs,rfl,(a3f hW).shut.leaves hl⟩,rfl⟩).mono ?_
      rintro e W' ⟨v,rfl,hv,hB⟩
      obtain ⟨_,hv,_⟩:=hv
      injection hv with hv
      exact ⟨by rw [hv],hB⟩
    intro i W hW
    obtain ⟨i,hi⟩:=i
    rcases (by omega:i=0∨i=1∨i=2) with rfl|rfl|rfl
    · rcases hv0 with ⟨h,_⟩|⟨h,_⟩
      · exact hh x1 x2 x3 _ W h hW
      · cases h
    · rcases hv1 with ⟨h,_⟩|⟨h,_⟩
      · exact hh y1 y2 y3 _ W h hW
      · cases h
    · rcases hv2 with ⟨h,_⟩|⟨h,_⟩
      · exact hh z1 z2 z3 _ W h hW
      · cases h
  have hs2':0 < c2.size:=hs2
  show Code.wp Tryz.prog _ _ _ _
  refine (wpIn_wide (n:=5)).1 (wpIn_block ?_)
  refine wpIn_rangeFunc_ownH (F:=Fence.wide) (n:=5) rfl (by decide) (gf:=240) (lb:=#[.pointer (some ⟨b,o,none⟩)]) rfl trivial (enters_of Tryz.func240 (by kernel_rfl) rfl)
    (encs:=fun i:Fin 3=>#[.agg ([#[d12,d13,d14,d15,d16,d17,d18,d19,d20,d21,d22,d23],#[d24,d25,d26,d27,d28,d29,d30,d31,d32,d33,d34,d35],#[d36,d37,d38,d39,d40,d41,d42,d43,d44,d45,d46,d47]].getD i.val #[])]) (Kp:=RowKit.Below w.heap.size) (S:=fun xs=>xs= [0,1,2]) (Sp:=fun _=>True) (N:=3) (w0:=w) ?hseq belowK_t (belowK_b (Nat.le_refl _)) (Below.refl _ _) (fun _=>rfl)
    (fun pre W=>RowKit.Below w.heap.size w W∧∀i∈pre,zv x1 x2 x3 y1 y2 y3 z1 z2 z3 i=false)
    (fun c pre W=>c= .ret∧(∃i,zv x1 x2 x3 y1 y2 y3 z1 z2 z3 i=true)∧RowKit.Below w0.heap.size w0 W∧∃cs T,W.heap[k2]?=some (.cells cs T (0,0))∧cs[0]?=some (.int .i64 6))
    ?hI ?hIx ⟨Below.refl _ _,fun i hi=>by cases hi⟩
    (fun x a' W=>∃Bx,w.heap.size≤Bx∧W.heap[Bx]?=some (.cells ([#[d12,d13,d14,d15,d16,d17,d18,d19,d20,d21,d22,d23],#[d24,d25,d26,d27,d28,d29,d30,d31,d32,d33,d34,d35],#[d36,d37,d38,d39,d40,d41,d42,d43,d44,d45,d46,d47]].getD x.val #[]) 173 (0,0))∧a'={ tmps:=#[p0,p1,.pointer (some ⟨k2,0,none⟩),p3,.pointer (some ⟨k4,0,none⟩),.pointer (some ⟨Bx,0,none⟩),p6,p7,p8,p9,p10,p11,p12,p13,p14,p15,p16,p17,p18,p19,p20,p21,.func (.func 240) #[] #[.pointer (some ⟨b,o,none⟩)],.agg ([#[d12,d13,d14,d15,d16,d17,d18,d19,d20,d21,d22,d23],#[d24,d25,d26,d27,d28,d29,d30,d31,d32,d33,d34,d35],#[d36,d37,d38,d39,d40,d41,d42,d43,d44,d45,d46,d47]].getD x.val #[]),p24,p25,p26,p27,p28,p29,p30,p31,p32,p33,p34,p35,p36,p37,p38,p39,p40],defers:=[] }) ?hAx ?assign ?body ?done ?stop
  case hseq=>
    intro l J Jx W hW hJ hJx hY h0
    exact d4g Fence.wide 4 trivial rfl (by decide) l b o w.heap.size hbok.1 d12 d13 d14 d15 d16 d17 d18 d19 d20 d21 d22 d23 d24 d25 d26 d27 d28 d29 d30 d31 d32 d33 d34 d35 d36 d37 d38 d39 d40 d41 d42 d43 d44 d45 d46 d47 (hd1 d12 (by simp)) (hd1 d13 (by simp)) (hd1 d14 (by simp)) (hd1 d15 (by simp)) (hd1 d16 (by simp)) (hd1 d17 (by simp)) (hd1 d18 (by simp)) (hd1 d19 (by simp)) (hd1 d20 (by simp)) (hd1 d21 (by simp)) (hd1 d22 (by simp)) (hd1 d23 (by simp)) (hd1 d24 (by simp)) (hd1 d25 (by simp)) (hd1 d26 (by simp)) (hd1 d27 (by simp)) (hd1 d28 (by simp)) (hd1 d29 (by simp)) (hd1 d30 (by simp)) (hd1 d31 (by simp)) (hd1 d32 (by simp)) (hd1 d33 (by simp)) (hd1 d34 (by simp)) (hd1 d35 (by simp)) (hd1 d36 (by simp)) (hd1 d37 (by simp)) (hd1 d38 (by simp)) (hd1 d39 (by simp)) (hd1 d40 (by simp)) (hd1 d41 (by simp)) (hd1 d42 (by simp)) (hd1 d43 (by simp)) (hd1 d44 (by simp)) (hd1 d45 (by simp)) (hd1 d46 (by simp)) (hd1 d47 (by simp)) J Jx W hW.size
      (cellW W hW 12 d12 rfl) (cellW W hW 13 d13 rfl) (cellW W hW 14 d14 rfl) (cellW W hW 15 d15 rfl) (cellW W hW 16 d16 rfl) (cellW W hW 17 d17 rfl) (cellW W hW 18 d18 rfl) (cellW W hW 19 d19 rfl) (cellW W hW 20 d20 rfl) (cellW W hW 21 d21 rfl) (cellW W hW 22 d22 rfl) (cellW W hW 23 d23 rfl) (cellW W hW 24 d24 rfl) (cellW W hW 25 d25 rfl) (cellW W hW 26 d26 rfl) (cellW W hW 27 d27 rfl) (cellW W hW 28 d28 rfl) (cellW W hW 29 d29 rfl) (cellW W hW 30 d30 rfl) (cellW W hW 31 d31 rfl) (cellW W hW 32 d32 rfl) (cellW W hW 33 d33 rfl) (cellW W hW 34 d34 rfl) (cellW W hW 35 d35 rfl) (cellW W hW 36 d36 rfl) (cellW W hW 37 d37 rfl) (cellW W hW 38 d38 rfl) (cellW W hW 39 d39 rfl) (cellW W hW 40 d40 rfl) (cellW W hW 41 d41 rfl) (cellW W hW 42 d42 rfl) (cellW W hW 43 d43 rfl) (cellW W hW 44 d44 rfl) (cellW W hW 45 d45 rfl) (cellW W hW 46 d46 rfl) (cellW W hW 47 d47 rfl)
      hJ hJx hY h0
  case hI=>exact (ownFrom_below (Nat.le_refl _) (Nat.le_refl _)).and fun s A B row hs _ _=>hs
  case hIx=>
    intro c s A B row hs hg hr
    obtain ⟨rfl,h1,h2,cs,T,h3,h4⟩:=hs
    refine ⟨rfl,h1,(ownFrom_below (β:=Unit) (n₀:=w0.heap.size) (w₀:=w0) (Nat.le_refl _) hbelow.size) () A B row h2 hg hr,cs,T,?_,h4⟩
    have hlt:k2 < A.heap.size:=(Array.getElem?_eq_some_iff.1 h3).1
    rw [hg.block k2 hlt (fun e=>by
      obtain ⟨_,o',ho',hc'⟩:=hr k2 e.symm
      rw [h3] at ho'
      cases ho'
      cases hc')]
    exact h3
  case hAx=>
    intro x a' s A B row hs hg hr
    obtain ⟨Bx,h1,h2,h3⟩:=hs
    refine ⟨Bx,h1,?_,h3⟩
    rw [hg.block Bx (Array.getElem?_eq_some_iff.1 h2).1 (fun e=>by
      obtain ⟨_,o',ho',hc'⟩:=hr Bx e.symm
      rw [h2] at ho'
      cases ho'
      cases hc')]
    exact h2
  have t173:=Tryz.underlying173;have a173:=Tryz.isAgg173;have z173:=Tryz.sizeOf173;have v173:=Tryz.zeroValue173
  have t24:=Tryz.underlying24;have a24:=Tryz.isAgg24;have z24:=Tryz.sizeOf24;have v24:=Tryz.zeroValue24
  case assign=>
    intro l pre x W K hI0 hK
    obtain ⟨x,hx⟩:=x
    rcases (by omega:x=0∨x=1∨x=2) with rfl|rfl|rfl
    · obtain ⟨W1,W2,W3,W4,W5,W6,W7,W8,W9,W10,W11,W12,e1,e2,e3,e4,e5,e6,e7,e8,e9,e10,e11,e12,b12,g12⟩:=st12 W d12 d13 d14 d15 d16 d17 d18 d19 d20 d21 d22 d23 (hd1 d12 (by simp)) (hd1 d13 (by simp)) (hd1 d14 (by simp)) (hd1 d15 (by simp)) (hd1 d16 (by simp)) (hd1 d17 (by simp)) (hd1 d18 (by simp)) (hd1 d19 (by simp)) (hd1 d20 (by simp)) (hd1 d21 (by simp)) (hd1 d22 (by simp)) (hd1 d23 (by simp))
      gi_wp2
      exact hK _ _ ⟨g12.size,fun i ob _ hi _=>(g12.block i (Array.getElem?_eq_some_iff.1 hi).1 (fun e=>(by cases e))).trans hi⟩ (gbB hI0.1.size g12) ⟨hI0.1.trans (gbB hI0.1.size g12),hI0.2⟩ ⟨W.heap.size,hI0.1.size,b12,rfl⟩
    · obtain ⟨W1,W2,W3,W4,W5,W6,W7,W8,W9,W10,W11,W12,e1,e2,e3,e4,e5,e6,e7,e8,e9,e10,e11,e12,b12,g12⟩:=st12 W d24 d25 d26 d27 d28 d29 d30 d31 d32 d33 d34 d35 (hd1 d24 (by simp)) (hd1 d25 (by simp)) (hd1 d26 (by simp)) (hd1 d27 (by simp)) (hd1 d28 (by simp)) (hd1 d29 (by simp)) (hd1 d30 (by simp)) (hd1 d31 (by simp)) (hd1 d32 (by simp)) (hd1 d33 (by simp)) (hd1 d34 (by simp)) (hd1 d35 (by simp))
      gi_wp2
      exact hK _ _ ⟨g12.size,fun i ob _ hi _=>(g12.block i (Array.getElem?_eq_some_iff.1 hi).1 (fun e=>(by cases e))).trans hi⟩ (gbB hI0.1.size g12) ⟨hI0.1.trans (gbB hI0.1.size g12),hI0.2⟩ ⟨W.heap.size,hI0.1.size,b12,rfl⟩
    · obtain ⟨W1,W2,W3,W4,W5,W6,W7,W8,W9,W10,W11,W12,e1,e2,e3,e4,e5,e6,e7,e8,e9,e10,e11,e12,b12,g12⟩:=st12 W d36 d37 d38 d39 d40 d41 d42 d43 d44 d45 d46 d47 (hd1 d36 (by simp)) (hd1 d37 (by simp)) (hd1 d38 (by simp)) (hd1 d39 (by simp)) (hd1 d40 (by simp)) (hd1 d41 (by simp)) (hd1 d42 (by simp)) (hd1 d43 (by simp)) (hd1 d44 (by simp)) (hd1 d45 (by simp)) (hd1 d46 (by simp)) (hd1 d47 (by simp))
      gi_wp2
      exact hK _ _ ⟨g12.size,fun i ob _ hi _=>(g12.block i (Array.getElem?_eq_some_iff.1 hi).1 (fun e=>(by cases e))).trans hi⟩ (gbB hI0.1.size g12) ⟨hI0.1.trans (gbB hI0.1.size g12),hI0.2⟩ ⟨W.heap.size,hI0.1.size,b12,rfl⟩
  case body=>
    rintro l pre ⟨x,hx⟩ a' W hl hrec ⟨hB,hnz⟩ ⟨Bx,hBx,hcell,rfl⟩ hlen
    have hWk:W.heap[k2]?=some (.cells c2 T2 (0,0)):=(hB.block k2 hkw2).trans hc2
    rcases (by omega:x=0∨x=1∨x=2) with rfl|rfl|rfl
    · have hcell:W.heap[Bx]?=some (.cells #[d12,d13,d14,d15,d16,d17,d18,d19,d20,d21,d22,d23] 173 (0,0)):=hcell
      have l0:W.cell? ⟨Bx,0,none⟩=some d12:=by simp [World.cell?,hcell]
      have l1:W.cell? ⟨Bx,1,none⟩=some d13:=by simp [World.cell?,hcell]
      have l2:W.cell? ⟨Bx,2,none⟩=some d14:=by simp [World.cell?,hcell]
      have l3:W.cell? ⟨Bx,3,none⟩=some d15:=by simp [World.cell?,hcell]
      have l4:W.cell? ⟨Bx,4,none⟩=some d16:=by simp [World.cell?,hcell]
      have l5:W.cell? ⟨Bx,5,none⟩=some d17:=by simp [World.cell?,hcell]
      have l6:W.cell? ⟨Bx,6,none⟩=some d18:=by simp [World.cell?,hcell]
      have l7:W.cell? ⟨Bx,7,none⟩=some d19:=by simp [World.cell?,hcell]
      have l8:W.cell? ⟨Bx,8,none⟩=some d20:=by simp [World.cell?,hcell]
      have l9:W.cell? ⟨Bx,9,none⟩=some d21:=by simp [World.cell?,hcell]
      have l10:W.cell? ⟨Bx,10,none⟩=some d22:=by simp [World.cell?,hcell]
      have l11:W.cell? ⟨Bx,11,none⟩=some d23:=by simp [World.cell?,hcell]
      have hzx:=hz ⟨0,hx⟩ W hB
      cases hzz:zv x1 x2 x3 y1 y2 y3 z1 z2 z3 ⟨0,hx⟩
      · rw [hzz] at hzx
        have hzx:Calls Tryz.prog 156 #[.agg #[d12,d13,d14,d15,d16,d17,d18,d19,d20,d21,d22,d23]] W _:=hzx
        gi_wp2
        refine ⟨trivial,(CallsIn.inRound l (callsIn_wide.2 hzx)).mono ?_⟩
        rintro e W2 ⟨rfl,hB2⟩
        gi_wp2
        exact ⟨⟨hB2.size,fun i ob _ hi _=>(hB2.block i (Array.getElem?_eq_some_iff.1 hi).1).trans hi⟩,hB2.mono hB.size,hB.trans (hB2.mono hB.size),fun i hi=>by
          rcases List.mem_append.1 hi with h|h
          · exact hnz i h
          · rw [List.mem_singleton.1 h];exact hzz⟩
      · rw [hzz] at hzx
        have hzx:Calls Tryz.prog 156 #[.agg #[d12,d13,d14,d15,d16,d17,d18,d19,d20,d21,d22,d23]] W _:=hzx
        gi_wp2
        refine ⟨trivial,(CallsIn.inRound l (callsIn_wide.2 hzx)).mono ?_⟩
        rintro e W2 ⟨rfl,hB2⟩
        have hWB:RowKit.Below w0.heap.size w0 W2:=hbelow.trans ((hB.trans (hB2.mono hB.size)).mono hbelow.size)
        have hk2W:W2.heap[k2]?=some (.cells c2 T2 (0,0)):=(hB2.block k2 (Array.getElem?_eq_some_iff.1 hWk).1).trans hWk
        obtain ⟨sc,sf,b3,g3,n3,q3⟩:=c9e (A:=w0) (.int .i64 6) (j:=0) hk2W hs2' how2 ⟨hWB.os,hWB.tape,hWB.output,hWB.size,fun i hi _=>hWB.block i hi⟩
        gi_wp2
        refine ⟨⟨by rw [n3];exact hB2.size,fun i ob _ hi hob=>?_⟩,rfl,⟨_,hzz⟩,gbB (Nat.le_refl _) g3,_,_,b3,?_⟩
        · rw [q3 i (fun e=>by subst e;rw [hWk] at hi;cases hi;cases hob)]
          exact (hB2.block i (Array.getElem?_eq_some_iff.1 hi).1).trans hi
        · rw [Array.getElem?_setIfInBounds];simp;intro e;rw [e] at hs2';exact absurd hs2' (by decide)
    · have hcell:W.heap[Bx]?=some (.cells #[d24,d25,d26,d27,d28,d29,d30,d31,d32,d33,d34,d35] 173 (0,0)):=hcell
      have l0:W.cell? ⟨Bx,0,none⟩=some d24:=by simp [World.cell?,hcell]
      have l1:W.cell? ⟨Bx,1,none⟩=some d25:=by simp [World.cell?,hcell]
      have l2:W.cell? ⟨Bx,2,none⟩=some d26:=by simp [World.cell?,hcell]
      have l3:W.cell? ⟨Bx,3,none⟩=some d27:=by simp [World.cell?,hcell]
      have l4:W.cell? ⟨Bx,4,none⟩=some d28:=by simp [World.cell?,hcell]
      have l5:W.cell? ⟨Bx,5,none⟩=some d29:=by simp [World.cell?,hcell]
      have l6:W.cell? ⟨Bx,6,none⟩=some d30:=by simp [World.cell?,hcell]
      have l7:W.cell? ⟨Bx,7,none⟩=some d31:=by simp [World.cell?,hcell]
      have l8:W.cell? ⟨Bx,8,none⟩=some d32:=by simp [World.cell?,hcell]
      have l9:W.cell? ⟨Bx,9,none⟩=some d33:=by simp [World.cell?,hcell]
      have l10:W.cell? ⟨Bx,10,none⟩=some d34:=by simp [World.cell?,hcell]
      have l11:W.cell? ⟨Bx,11,none⟩=some d35:=by simp [World.cell?,hcell]
      have hzx:=hz ⟨1,hx⟩ W hB
      cases hzz:zv x1 x2 x3 y1 y2 y3 z1 z2 z3 ⟨1,hx⟩
      · rw [hzz] at hzx
        have hzx:Calls Tryz.prog 156 #[.agg #[d24,d25,d26,d27,d28,d29,d30,d31,d32,d33,d34,d35]] W _:=hzx
        gi_wp2
        refine ⟨trivial,(CallsIn.inRound l (callsIn_wide.2 hzx)).mono ?_⟩
        rintro e W2 ⟨rfl,hB2⟩
        gi_wp2
        exact ⟨⟨hB2.size,fun i ob _ hi _=>(hB2.block i (Array.getElem?_eq_some_iff.1 hi).1).trans hi⟩,hB2.mono hB.size,hB.trans (hB2.mono hB.size),fun i hi=>by
          rcases List.mem_append.1 hi with h|h
          · exact hnz i h
          · rw [List.mem_singleton.1 h];exact hzz⟩
      · rw [hzz] at hzx
        have hzx:Calls Tryz.prog 156 #[.agg #[d24,d25,d26,d27,d28,d29,d30,d31,d32,d33,d34,d35]] W _:=hzx
        gi_wp2
        refine ⟨trivial,(CallsIn.inRound l (callsIn_wide.2 hzx)).mono ?_⟩
        rintro e W2 ⟨rfl,hB2⟩
        have hWB:RowKit.Below w0.heap.size w0 W2:=hbelow.trans ((hB.trans (hB2.mono hB.size)).mono hbelow.size)
        have hk2W:W2.heap[k2]?=some (.cells c2 T2 (0,0)):=(hB2.block k2 (Array.getElem?_eq_some_iff.1 hWk).1).trans hWk
        obtain ⟨sc,sf,b3,g3,n3,q3⟩:=c9e (A:=w0) (.int .i64 6) (j:=0) hk2W hs2' how2 ⟨hWB.os,hWB.tape,hWB.output,hWB.size,fun i hi _=>hWB.block i hi⟩
        gi_wp2
        refine ⟨⟨by rw [n3];exact hB2.size,fun i ob _ hi hob=>?_⟩,rfl,⟨_,hzz⟩,gbB (Nat.le_refl _) g3,_,_,b3,?_⟩
        · rw [q3 i (fun e=>by subst e;rw [hWk] at hi;cases hi;cases hob)]
          exact (hB2.block i (Array.getElem?_eq_some_iff.1 hi).1).trans hi
        · rw [Array.getElem?_setIfInBounds];simp;intro e;rw [e] at hs2';exact absurd hs2' (by decide)
    · have hcell:W.heap[Bx]?=some (.cells #[d36,d37,d38,d39,d40,d41,d42,d43,d44,d45,d46,d47] 173 (0,0)):=hcell
      have l0:W.cell? ⟨Bx,0,none⟩=some d36:=by simp [World.cell?,hcell]
      have l1:W.cell? ⟨Bx,1,none⟩=some d37:=by simp [World.cell?,hcell]
      have l2:W.cell? ⟨Bx,2,none⟩=some d38:=by simp [World.cell?,hcell]
      have l3:W.cell? ⟨Bx,3,none⟩=some d39:=by simp [World.cell?,hcell]
      have l4:W.cell? ⟨Bx,4,none⟩=some d40:=by simp [World.cell?,hcell]
      have l5:W.cell? ⟨Bx,5,none⟩=some d41:=by simp [World.cell?,hcell]
      have l6:W.cell? ⟨Bx,6,none⟩=some d42:=by simp [World.cell?,hcell]
      have l7:W.cell? ⟨Bx,7,none⟩=some d43:=by simp [World.cell?,hcell]
      have l8:W.cell? ⟨Bx,8,none⟩=some d44:=by simp [World.cell?,hcell]
      have l9:W.cell? ⟨Bx,9,none⟩=some d45:=by simp [World.cell?,hcell]
      have l10:W.cell? ⟨Bx,10,none⟩=some d46:=by simp [World.cell?,hcell]
      have l11:W.cell? ⟨Bx,11,none⟩=some d47:=by simp [World.cell?,hcell]
      have hzx:=hz ⟨2,hx⟩ W hB
      cases hzz:zv x1 x2 x3 y1 y2 y3 z1 z2 z3 ⟨2,hx⟩
      · rw [hzz] at hzx
        have hzx:Calls Tryz.prog 156 #[.agg #[d36,d37,d38,d39,d40,d41,d42,d43,d44,d45,d46,d47]] W _:=hzx
        gi_wp2
        refine ⟨trivial,(CallsIn.inRound l (callsIn_wide.2 hzx)).mono ?_⟩
        rintro e W2 ⟨rfl,hB2⟩
        gi_wp2
        exact ⟨⟨hB2.size,fun i ob _ hi _=>(hB2.block i (Array.getElem?_eq_some_iff.1 hi).1).trans hi⟩,hB2.mono hB.size,hB.trans (hB2.mono hB.size),fun i hi=>by
          rcases List.mem_append.1 hi with h|h
          · exact hnz i h
          · rw [List.mem_singleton.1 h];exact hzz⟩
      · rw [hzz] at hzx
        have hzx:Calls Tryz.prog 156 #[.agg #[d36,d37,d38,d39,d40,d41,d42,d43,d44,d45,d46,d47]] W _:=hzx
        gi_wp2
        refine ⟨trivial,(CallsIn.inRound l (callsIn_wide.2 hzx)).mono ?_⟩
        rintro e W2 ⟨rfl,hB2⟩
        have hWB:RowKit.Below w0.heap.size w0 W2:=hbelow.trans ((hB.trans (hB2.mono hB.size)).mono hbelow.size)
        have hk2W:W2.heap[k2]?=some (.cells c2 T2 (0,0)):=(hB2.block k2 (Array.getElem?_eq_some_iff.1 hWk).1).trans hWk
        obtain ⟨sc,sf,b3,g3,n3,q3⟩:=c9e (A:=w0) (.int .i64 6) (j:=0) hk2W hs2' how2 ⟨hWB.os,hWB.tape,hWB.output,hWB.size,fun i hi _=>hWB.block i hi⟩
        gi_wp2
        refine ⟨⟨by rw [n3];exact hB2.size,fun i ob _ hi hob=>?_⟩,rfl,⟨_,hzz⟩,gbB (Nat.le_refl _) g3,_,_,b3,?_⟩
        · rw [q3 i (fun e=>by subst e;rw [hWk] at hi;cases hi;cases hob)]
          exact (hB2.block i (Array.getElem?_eq_some_iff.1 hi).1).trans hi
        · rw [Array.getElem?_setIfInBounds];simp;intro e;rw [e] at hs2';exact absurd hs2' (by decide)
  case stop=>
    rintro D c pre W hD _ ⟨rfl,hz6,hB0,cs,T,hh,h6⟩ hK
    gi_wp2
    refine ⟨by simp,.inl ⟨_,_,rfl,run_takeDeferred hK,?_⟩⟩
    exact c64 (k2:=k2) rfl hh h6 hK (by rw [axE,if_pos hz6]) (c1p (Nat.le_trans hbelow.size hD) hK hB0)
  case done=>
    rintro D xs W hD rfl ⟨hB,hnz⟩ hK
    refine hdone W D hB hD hK ?_
    rintro ⟨i,hi⟩
    have:i∈([0,1,2]:List (Fin 3)):=by
      obtain ⟨i,hi3⟩:=i
      rcases (by omega:i=0∨i=1∨i=2) with rfl|rfl|rfl <;> simp
    rw [hnz i this] at hi
    cases hi
end Go.Proofs
end
