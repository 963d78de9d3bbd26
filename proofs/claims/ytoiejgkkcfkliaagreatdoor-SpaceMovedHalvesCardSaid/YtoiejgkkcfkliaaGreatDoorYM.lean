/- Lemmas on the program and its library: part YM. -/
import Derived.Test.YtoiejgkkcfkliaaGreatDoorYMW
import Derived.Test.YtoiejgkkcfkliaaGreatDoorYR
set_option linter.unusedVariables false
set_option linter.unusedSimpArgs false
section
set_option maxHeartbeats 4000000
set_option maxRecDepth 100000
namespace Go.Proofs
open Go.Ax
theorem m9 (n:Nat) (hn:n≤1000) (a b c d:V3):Ax.Pure Tryz.prog G 36 [N n,.one (.row 3 4 (fun i=> [leafV a,leafV b,leafV c,leafV d].getD i []))] (Bo (a2q n [a,b,c,d])):=
  pure_args (a4h n 4 [a,b,c,d] rfl hn (show 4≤1000000 by decide)) ⟨Sub.refl _,sub_row_eq (row4_lt rfl rfl rfl rfl),trivial⟩ ⟨trivial,trivial,trivial⟩
theorem n5 (n:Nat) (hn:n≤1000) (a b c d:V3):Ax.Pure Tryz.prog G 27 [N n,txF a b c d] (Bo (a2q n [a,b,c,d])):=by
  have c_s:=m9 n hn a b c d
  refine zen Tryz.func27 rfl Tryz.ntmps27 ?_
  intro w0 E0 hc
  repeat' (first|refine zR1 hc Tryz.results27 ?_|(with_reducible first|exact trivial|refine zan ?_ ?_|refine zim (fun h=>?_)|refine zoc c_s ?_ ?_|fail)|(omega;done))
end Go.Proofs
end
section
set_option maxHeartbeats 4000000
set_option maxRecDepth 100000
namespace Go.Proofs
open Go.Ax
theorem m7 {k:Nat} (hk:k≤100000) (o1 o2 o3 x1 x2 x3 y1 y2 y3 z1 z2 z3 p1 p2 p3:Rat) (qx:Q k x1∧Q k x2∧Q k x3) (qy:Q k y1∧Q k y2∧Q k y3) (qz:Q k z1∧Q k z2∧Q k z3) (qp:Q k p1∧Q k p2∧Q k p3):Ax.Pure Tryz.prog G 151 [tF (ratL o1) (ratL o2) (ratL o3) (ratL x1) (ratL x2) (ratL x3) (ratL y1) (ratL y2) (ratL y3) (ratL z1) (ratL z2) (ratL z3),tV (ratL p1) (ratL p2) (ratL p3)] (tV (ratL (p1*x1+p2*y1+p3*z1)) (ratL (p1*x2+p2*y2+p3*z2)) (ratL (p1*x3+p2*y3+p3*z3))):=by
  have c_x:=a2m (k:=k) (by omega) p1 x1 x2 x3 qp.1 qx
  have c_y:=a2m (k:=k) (by omega) p2 y1 y2 y3 qp.2.1 qy
  have c_z:=a2m (k:=k) (by omega) p3 z1 z2 z3 qp.2.2 qz
  obtain ⟨qx1,qx2,qx3⟩:=qx
  obtain ⟨qy1,qy2,qy3⟩:=qy
  obtain ⟨qz1,qz2,qz3⟩:=qz
  obtain ⟨qp1,qp2,qp3⟩:=qp
  have c_a:=a26 (k:=k+k) (by omega) (p1*x1) (p1*x2) (p1*x3) (p2*y1) (p2*y2) (p2*y3) ⟨Q_mul qp1 qx1,Q_mul qp1 qx2,Q_mul qp1 qx3⟩ ⟨Q_mul qp2 qy1,Q_mul qp2 qy2,Q_mul qp2 qy3⟩
  have c_b:=a26 (k:=k+k+(k+k)+1) (by omega) (p1*x1+p2*y1) (p1*x2+p2*y2) (p1*x3+p2*y3) (p3*z1) (p3*z2) (p3*z3) ⟨Q_add (Q_mul qp1 qx1) (Q_mul qp2 qy1),Q_add (Q_mul qp1 qx2) (Q_mul qp2 qy2),Q_add (Q_mul qp1 qx3) (Q_mul qp2 qy3)⟩ ⟨Q_mono (Q_mul qp3 qz1) (by omega),Q_mono (Q_mul qp3 qz2) (by omega),Q_mono (Q_mul qp3 qz3) (by omega)⟩
  refine zen Tryz.func151 rfl Tryz.ntmps151 ?_
  intro w0 E0 hc
  repeat' (first|refine zR1 hc Tryz.results151 ?_|(with_reducible first|exact trivial|refine zan ?_ ?_|refine zim (fun h=>?_)|refine zoc c_x ?_ ?_|refine zoc c_y ?_ ?_|refine zoc c_z ?_ ?_|refine zoc c_a ?_ ?_|refine zoc c_b ?_ ?_|fail)|(omega;done))
theorem j6 {k:Nat} (hk:k≤200000) (o1 o2 o3 x1 x2 x3 y1 y2 y3 z1 z2 z3:Rat) (qx:Q k x1∧Q k x2∧Q k x3) (qy:Q k y1∧Q k y2∧Q k y3) (qz:Q k z1∧Q k z2∧Q k z3):Ax.Pure Tryz.prog G 71 [tF (ratL o1) (ratL o2) (ratL o3) (ratL x1) (ratL x2) (ratL x3) (ratL y1) (ratL y2) (ratL y3) (ratL z1) (ratL z2) (ratL z3)] (tV (ratL (dot3 x1 x2 x3 x1 x2 x3)) (ratL (dot3 y1 y2 y3 y1 y2 y3)) (ratL (dot3 z1 z2 z3 z1 z2 z3))):=by
  have c_x:=a2k hk x1 x2 x3 qx
  have c_y:=a2k hk y1 y2 y3 qy
  have c_z:=a2k hk z1 z2 z3 qz
  refine zen Tryz.func71 rfl Tryz.ntmps71 ?_
  intro w0 E0 hc
  repeat' (first|refine zR1 hc Tryz.results71 ?_|(with_reducible first|exact trivial|refine zan ?_ ?_|refine zim (fun h=>?_)|refine zoc c_x ?_ ?_|refine zoc c_y ?_ ?_|refine zoc c_z ?_ ?_|fail)|(omega;done))
end Go.Proofs
end
section
namespace Go.Proofs
open Go.Ax
theorem r6 {a b:Int} (h:firstNZ [a,b]=0):a=0∧b=0:=by
  by_cases ha:a=0
  · subst ha
    rw [nz0] at h
    exact ⟨rfl,Classical.byContradiction fun hb=>by rw [nz1 hb] at h;exact hb h⟩
  · rw [nz1 ha] at h;exact absurd h ha
end Go.Proofs
end
section
set_option maxHeartbeats 4000000
set_option maxRecDepth 100000
namespace Go.Proofs
open Go.Ax
theorem n7 {q:Rat}:sgQ q≤0↔¬0 < q:=by
  rw [show 0 < q↔0 < q.num by rw [Rat.lt_iff];simp]
  unfold sgQ
  split
  · rename_i h;subst h;decide
  · rename_i h
    have:q.num≠0:=fun e=>h (Rat.num_eq_zero.1 e)
    split <;> omega
theorem n6 {k:Nat} (hk:k≤40000) (o1 o2 o3 x1 x2 x3 y1 y2 y3 z1 z2 z3:Rat) (qx:Q k x1∧Q k x2∧Q k x3) (qy:Q k y1∧Q k y2∧Q k y3) (qz:Q k z1∧Q k z2∧Q k z3):Ax.Pure Tryz.prog G 68 [tF (ratL o1) (ratL o2) (ratL o3) (ratL x1) (ratL x2) (ratL x3) (ratL y1) (ratL y2) (ratL y3) (ratL z1) (ratL z2) (ratL z3)] (N (if (dot3 x1 x2 x3 y1 y2 y3=0∧dot3 y1 y2 y3 z1 z2 z3=0∧dot3 z1 z2 z3 x1 x2 x3=0)∧0 < det3 x1 x2 x3 y1 y2 y3 z1 z2 z3 then 0 else 15)):=by
  have c_1:=a23 (k:=k) (by omega) x1 x2 x3 y1 y2 y3 qx qy
  have c_2:=a23 (k:=k) (by omega) y1 y2 y3 z1 z2 z3 qy qz
  have c_3:=a23 (k:=k) (by omega) z1 z2 z3 x1 x2 x3 qz qx
  have c_d:=a4m (k:=k) (by omega) x1 x2 x3 y1 y2 y3 z1 z2 z3 qx qy qz
  rw [a4f] at c_d
  generalize dot3 x1 x2 x3 y1 y2 y3=d1 at *
  generalize dot3 y1 y2 y3 z1 z2 z3=d2 at *
  generalize dot3 z1 z2 z3 x1 x2 x3=d3 at *
  generalize det3 x1 x2 x3 y1 y2 y3 z1 z2 z3=dt at *
  have c_4:=r_IsZero d1
  have c_5:=r_IsZero d2
  have c_6:=r_IsZero d3
  have c_7:=r_Sign dt
  have hs:sgQ dt≤0↔¬0 < dt:=n7
  generalize sgQ dt=s at *
  refine zen Tryz.func68 rfl Tryz.ntmps68 ?_
  intro w0 E0 hc
  repeat' (first|refine zR1 hc Tryz.results68 ?_|(with_reducible first|exact trivial|refine zan ?_ ?_|refine zim (fun h=>?_)|refine zoc c_1 ?_ ?_|refine zoc c_2 ?_ ?_|refine zoc c_3 ?_ ?_|refine zoc c_4 ?_ ?_|refine zoc c_5 ?_ ?_|refine zoc c_6 ?_ ?_|refine zoc c_d ?_ ?_|refine zoc c_7 ?_ ?_|fail)|(omega;done))
  all_goals
    refine sub_int ?_
    by_cases e1:d1=0 <;> by_cases e2:d2=0 <;> by_cases e3:d3=0 <;> by_cases e4:0 < dt <;> simp_all <;> omega
end Go.Proofs
end
section
set_option maxHeartbeats 4000000
set_option maxRecDepth 100000
namespace Go.Proofs
open Go.Ax
theorem n8 {a b c d:V3}:Sub (.one (.row 3 4 (fun i=> [leafV a,leafV b,leafV c,leafV d].getD i []))) (rowV [a,b,c,d] 4):=sub_row_eq (row4_lt rfl rfl rfl rfl)
theorem j0 {P:Nat→V3→Prop} {a b c d:V3} (h0:P 0 a) (h1:P 1 b) (h2:P 2 c) (h3:P 3 d) (i:Nat) (hi:i < 4):P i ([a,b,c,d].getD i ([],[],[])):=by
  rcases (by omega:i=0∨i=1∨i=2∨i=3) with rfl|rfl|rfl|rfl
  · exact h0
  · exact h1
  · exact h2
  · exact h3
theorem f6 {a b c d:V3} (ha:shortV a) (hb:shortV b) (hc':shortV c) (hd:shortV d) (h0:fstVs [a,b,c,d]≠0):Ax.Pure Tryz.prog G 31 [txF a b c d] (N (fstVs [a,b,c,d])):=by
  have c_v:∀i:Nat,i < 4→Ax.Pure Tryz.prog G 39 [txV ([a,b,c,d].getD i ([],[],[]))] (N (fstVec ([a,b,c,d].getD i ([],[],[])))):=
    j0 (P:=fun _ v=>Ax.Pure Tryz.prog G 39 [txV v] (N (fstVec v))) (a2c _ _ _ ha.1 ha.2.1 ha.2.2) (a2c _ _ _ hb.1 hb.2.1 hb.2.2) (a2c _ _ _ hc'.1 hc'.2.1 hc'.2.2) (a2c _ _ _ hd.1 hd.2.1 hd.2.2)
  refine zen Tryz.func31 rfl Tryz.ntmps31 ?_
  intro w0 E0 hc
  repeat' (first|refine zR1 hc Tryz.results31 ?_|(with_reducible first|exact trivial|refine zan ?_ ?_|refine zim (fun h=>?_)|fail)|(omega;done))
  refine Wp_loopI (α:=Nat) (fun i=>stOf [(1,.one (.ptr 0 12 0 0)),(3,rowV [a,b,c,d] 4),(4,N i)] [(0,⟨12,1,fun _=> [.v (.string (bs a.1)),.v (.string (bs a.2.1)),.v (.string (bs a.2.2)),.v (.string (bs b.1)),.v (.string (bs b.2.1)),.v (.string (bs b.2.2)),.v (.string (bs c.1)),.v (.string (bs c.2.1)),.v (.string (bs c.2.2)),.v (.string (bs d.1)),.v (.string (bs d.2.1)),.v (.string (bs d.2.2))],false⟩)] 1) (fun i=>i≤4∧fstVs [a,b,c,d]=fstVs ([a,b,c,d].drop i)) (fun i=>4 - i) 0 ⟨Nat.zero_le _,rfl⟩ ?_ ?_
  · refine zW1 ?_ <;> repeat' (with_reducible first|exact trivial|refine zan ?_ ?_|refine zal (fun i hi=>?_))
    all_goals exact n8
  · rintro i ⟨h1,h2⟩
    have hd:=fun h:i < 4=>fstVs_drop (ls:=[a,b,c,d]) (i:=i) h
    have c_vi:=c_v i
    repeat' (first|refine zR1 hc Tryz.results31 ?_|(with_reducible first|exact trivial|refine zan ?_ ?_|refine zim (fun h=>?_)|refine zoc (c_vi ?_) ?_ ?_|fail)|((first|omega|(simp only [Int.toNat_natCast];omega));done))
    · exact sub_eq (by rw [h2,hd (by omega),if_neg h])
    · refine ⟨i+1,⟨by omega,by rw [h2,hd (by omega),if_pos h]⟩,by omega,?_⟩
      refine zW1 ?_ <;> repeat' (with_reducible first|exact trivial|refine zan ?_ ?_|refine zal (fun i hi=>?_))
    · obtain rfl:i=4:=by omega
      exact absurd h2 h0
theorem f9 {a b c d:V3} {zz:Nat→Bool} {s:Int} (c_v:∀i,i < 4→Ax.Pure Tryz.prog G 39 [txV ([a,b,c,d].getD i ([],[],[]))] (N 0))
    (c_o:∀i,i < 4→Ax.Pure Tryz.prog G 79 [txV ([a,b,c,d].getD i ([],[],[]))] (Bo (zz i))) (c_s:Ax.Pure Tryz.prog G 68 [txF a b c d] (N s)) :
    Ax.Pure Tryz.prog G 31 [txF a b c d] (N (if zz 1=true∨zz 2=true∨zz 3=true then 6 else s)):=by
  refine zen Tryz.func31 rfl Tryz.ntmps31 ?_
  intro w0 E0 hc
  repeat' (first|refine zR1 hc Tryz.results31 ?_|(with_reducible first|exact trivial|refine zan ?_ ?_|refine zim (fun h=>?_)|fail)|(omega;done))
  refine Wp_loopI (α:=Nat) (fun i=>stOf [(1,.one (.ptr 0 12 0 0)),(3,rowV [a,b,c,d] 4),(4,N i)] [(0,⟨12,1,fun _=> [.v (.string (bs a.1)),.v (.string (bs a.2.1)),.v (.string (bs a.2.2)),.v (.string (bs b.1)),.v (.string (bs b.2.1)),.v (.string (bs b.2.2)),.v (.string (bs c.1)),.v (.string (bs c.2.1)),.v (.string (bs c.2.2)),.v (.string (bs d.1)),.v (.string (bs d.2.1)),.v (.string (bs d.2.2))],false⟩)] 1) (fun i=>i≤4∧True) (fun i=>4 - i) 0 ⟨Nat.zero_le _,trivial⟩ ?_ ?_
  · refine zW1 ?_ <;> repeat' (with_reducible first|exact trivial|refine zan ?_ ?_|refine zal (fun i hi=>?_))
    all_goals exact n8
  rintro i ⟨h1,-⟩
  have c_vi:=c_v i
  repeat' (first|refine zR1 hc Tryz.results31 ?_|(with_reducible first|exact trivial|refine zan ?_ ?_|refine zim (fun h=>?_)|refine zoc (c_vi ?_) ?_ ?_|fail)|((first|omega|(simp only [Int.toNat_natCast];omega));done))
  · refine ⟨i+1,⟨by omega,trivial⟩,by omega,?_⟩
    refine zW1 ?_ <;> repeat' (with_reducible first|exact trivial|refine zan ?_ ?_|refine zal (fun i hi=>?_))
  refine Wp_loopI (α:=Nat) (fun i=>stOf [(1,.one (.ptr 0 12 0 0)),(3,rowV [a,b,c,d] 4),(6,N i)] [(0,⟨12,1,fun _=> [.v (.string (bs a.1)),.v (.string (bs a.2.1)),.v (.string (bs a.2.2)),.v (.string (bs b.1)),.v (.string (bs b.2.1)),.v (.string (bs b.2.2)),.v (.string (bs c.1)),.v (.string (bs c.2.1)),.v (.string (bs c.2.2)),.v (.string (bs d.1)),.v (.string (bs d.2.1)),.v (.string (bs d.2.2))],false⟩)] 1) (fun i=>1≤i∧i≤4∧∀j,1≤j→j < i→zz j=false) (fun i=>4 - i) 1 ⟨Nat.le_refl _,by decide,fun j h1 h2=>by omega⟩ ?_ ?_
  · refine zW1 ?_ <;> repeat' (with_reducible first|exact trivial|refine zan ?_ ?_|refine zal (fun i hi=>?_))
  rintro i ⟨h1,h2,h3⟩
  have c_oi:=c_o i
  repeat' (first|refine zR1 hc Tryz.results31 ?_|(with_reducible first|exact trivial|refine zan ?_ ?_|refine zim (fun h=>?_)|refine zoc (c_oi ?_) ?_ ?_|refine zoc c_s ?_ ?_|fail)|((first|omega|(simp only [Int.toNat_natCast];omega));done))
  · refine sub_int ?_
    rw [if_pos]
    rcases (by omega:i=1∨i=2∨i=3) with rfl|rfl|rfl
    · exact .inl h
    · exact .inr (.inl h)
    · exact .inr (.inr h)
  · refine ⟨i+1,⟨by omega,by omega,fun j j1 j2=>?_⟩,by omega,?_⟩
    · by_cases e:j=i
      · rw [e];exact h
      · exact h3 j j1 (by omega)
    · refine zW1 ?_ <;> repeat' (with_reducible first|exact trivial|refine zan ?_ ?_|refine zal (fun i hi=>?_))
  · obtain rfl:i=4:=by omega
    rw [if_neg (by rw [h3 1 (by omega) (by omega),h3 2 (by omega) (by omega),h3 3 (by omega) (by omega)];simp)]
    exact Sub.refl _
theorem i6 (o1 o2 o3 x1 x2 x3 y1 y2 y3 z1 z2 z3:Rat) (ho:okV o1 o2 o3) (hx:okV x1 x2 x3) (hy:okV y1 y2 y3) (hz:okV z1 z2 z3):Ax.Pure Tryz.prog G 31 [txF (v3 o1 o2 o3) (v3 x1 x2 x3) (v3 y1 y2 y3) (v3 z1 z2 z3)] (N (axE x1 x2 x3 y1 y2 y3 z1 z2 z3)):=by
  have h:=f9 (a:=v3 o1 o2 o3) (b:=v3 x1 x2 x3) (c:=v3 y1 y2 y3) (d:=v3 z1 z2 z3) (zz:=fun i=> [decide (o1=0∧o2=0∧o3=0),decide (x1=0∧x2=0∧x3=0),decide (y1=0∧y2=0∧y3=0),decide (z1=0∧z2=0∧z3=0)].getD i false)
    (j0 (P:=fun _ v=>Ax.Pure Tryz.prog G 39 [txV v] (N 0)) (a38 ho) (a38 hx) (a38 hy) (a38 hz))
    (j0 (P:=fun i v=>Ax.Pure Tryz.prog G 79 [txV v] (Bo ([decide (o1=0∧o2=0∧o3=0),decide (x1=0∧x2=0∧x3=0),decide (y1=0∧y2=0∧y3=0),decide (z1=0∧z2=0∧z3=0)].getD i false))) (a2b o1 o2 o3) (a2b x1 x2 x3) (a2b y1 y2 y3) (a2b z1 z2 z3))
    (n6 (k:=2400) (by decide) o1 o2 o3 x1 x2 x3 y1 y2 y3 z1 z2 z3 (okV_Q hx) (okV_Q hy) (okV_Q hz))
  have e:(∃i,zv x1 x2 x3 y1 y2 y3 z1 z2 z3 i=true)↔decide (x1=0∧x2=0∧x3=0)=true∨decide (y1=0∧y2=0∧y3=0)=true∨decide (z1=0∧z2=0∧z3=0)=true:=by
    constructor
    · rintro ⟨⟨i,hi⟩,h⟩
      rcases (by omega:i=0∨i=1∨i=2) with rfl|rfl|rfl
      · exact .inl h
      · exact .inr (.inl h)
      · exact .inr (.inr h)
    · rintro (h|h|h)
      · exact ⟨0,h⟩
      · exact ⟨1,h⟩
      · exact ⟨2,h⟩
  have h:Ax.Pure Tryz.prog G 31 _ (N (if decide (x1=0∧x2=0∧x3=0)=true∨decide (y1=0∧y2=0∧y3=0)=true∨decide (z1=0∧z2=0∧z3=0)=true then _ else _)):=h
  unfold axE
  by_cases k:∃i,zv x1 x2 x3 y1 y2 y3 z1 z2 z3 i=true
  · rw [if_pos (e.1 k)] at h;rw [if_pos k];exact h
  · rw [if_neg (fun x=>k (e.2 x))] at h;rw [if_neg k];exact h
theorem j5 {a b c d:V3} {e:Int} (ha:shortV a) (hb:shortV b) (hc:shortV c) (hd:shortV d) (h:FrE a b c d e):Ax.Pure Tryz.prog G 31 [txF a b c d] (N e):=by
  rcases h with ⟨rfl,h⟩|⟨o1,o2,o3,x1,x2,x3,y1,y2,y3,z1,z2,z3,⟨rfl,rfl,rfl,rfl⟩,⟨ho,hx,hy,hz⟩,rfl⟩
  · exact f6 ha hb hc hd h
  · exact i6 o1 o2 o3 x1 x2 x3 y1 y2 y3 z1 z2 z3 ho hx hy hz
end Go.Proofs
end
section
namespace Go.Proofs
open Go.Ax
theorem r7 {n:Nat} {a b c d:V3}:a2q n [a,b,c,d]=true↔shV n a∧shV n b∧shV n c∧shV n d:=by simp [a2q]
theorem f8 {x1 x2 x3 y1 y2 y3 z1 z2 z3:Rat} (h:axE x1 x2 x3 y1 y2 y3 z1 z2 z3=0):dot3 x1 x2 x3 x1 x2 x3≠0∧dot3 y1 y2 y3 y1 y2 y3≠0∧dot3 z1 z2 z3 z1 z2 z3≠0:=⟨dot_pos (axE_zero h).1,dot_pos (axE_zero h).2.1,dot_pos (axE_zero h).2.2.1⟩
theorem m8 {x1 x2 x3 y1 y2 y3 z1 z2 z3:Rat} (h:axE x1 x2 x3 y1 y2 y3 z1 z2 z3=0):orth x1 x2 x3 y1 y2 y3 z1 z2 z3:=(axE_zero h).2.2.2.1
def n4 (a b c d:V3):Prop:=∃o1 o2 o3 x1 x2 x3 y1 y2 y3 z1 z2 z3:Rat,a=v3 o1 o2 o3∧b=v3 x1 x2 x3∧c=v3 y1 y2 y3∧d=v3 z1 z2 z3∧okF o1 o2 o3 x1 x2 x3 y1 y2 y3 z1 z2 z3
theorem r5 (a b c d:V3):∃e,FrE a b c d e∧(e=0→n4 a b c d):=by
  by_cases h:fstVs [a,b,c,d]=0
  · obtain ⟨h1,h⟩:=a15 h
    obtain ⟨h2,h⟩:=a15 h
    obtain ⟨h3,h⟩:=a15 h
    obtain ⟨h4,_⟩:=a15 h
    obtain ⟨o1,o2,o3,rfl,ho⟩:=a35 h1
    obtain ⟨x1,x2,x3,rfl,hx⟩:=a35 h2
    obtain ⟨y1,y2,y3,rfl,hy⟩:=a35 h3
    obtain ⟨z1,z2,z3,rfl,hz⟩:=a35 h4
    exact ⟨_,.inr ⟨o1,o2,o3,x1,x2,x3,y1,y2,y3,z1,z2,z3,⟨rfl,rfl,rfl,rfl⟩,⟨ho,hx,hy,hz⟩,rfl⟩,fun e=>⟨o1,o2,o3,x1,x2,x3,y1,y2,y3,z1,z2,z3,rfl,rfl,rfl,rfl,ho,hx,hy,hz,e⟩⟩
  · exact ⟨_,.inl ⟨rfl,h⟩,fun e=>absurd e h⟩
end Go.Proofs
end
section
set_option maxHeartbeats 8000000
set_option maxRecDepth 100000
namespace Go.Proofs
open Go.Ax
theorem f0 (o1 o2 o3 x1 x2 x3 y1 y2 y3 z1 z2 z3:Rat) (nx:dot3 x1 x2 x3 x1 x2 x3≠0) (ny:dot3 y1 y2 y3 y1 y2 y3≠0) (nz:dot3 z1 z2 z3 z1 z2 z3≠0) (qo:Q 2400 o1∧Q 2400 o2∧Q 2400 o3) (qx:Q 2400 x1∧Q 2400 x2∧Q 2400 x3) (qy:Q 2400 y1∧Q 2400 y2∧Q 2400 y3) (qz:Q 2400 z1∧Q 2400 z2∧Q 2400 z3) (m n l:Int) (w:Rat) (hh:okH m n l w) {X Y Z:Int} {W:List UInt8} {e:Int} (c_m:Ax.Pure Tryz.prog G 40 [tV (ratL ((m:Rat) / dot3 x1 x2 x3 x1 x2 x3*x1+(n:Rat) / dot3 y1 y2 y3 y1 y2 y3*y1+(l:Rat) / dot3 z1 z2 z3 z1 z2 z3*z1)) (ratL ((m:Rat) / dot3 x1 x2 x3 x1 x2 x3*x2+(n:Rat) / dot3 y1 y2 y3 y1 y2 y3*y2+(l:Rat) / dot3 z1 z2 z3 z1 z2 z3*z2)) (ratL ((m:Rat) / dot3 x1 x2 x3 x1 x2 x3*x3+(n:Rat) / dot3 y1 y2 y3 y1 y2 y3*y3+(l:Rat) / dot3 z1 z2 z3 z1 z2 z3*z3)),S (bs (ratL (w+dot3 ((m:Rat) / dot3 x1 x2 x3 x1 x2 x3*x1+(n:Rat) / dot3 y1 y2 y3 y1 y2 y3*y1+(l:Rat) / dot3 z1 z2 z3 z1 z2 z3*z1) ((m:Rat) / dot3 x1 x2 x3 x1 x2 x3*x2+(n:Rat) / dot3 y1 y2 y3 y1 y2 y3*y2+(l:Rat) / dot3 z1 z2 z3 z1 z2 z3*z2) ((m:Rat) / dot3 x1 x2 x3 x1 x2 x3*x3+(n:Rat) / dot3 y1 y2 y3 y1 y2 y3*y3+(l:Rat) / dot3 z1 z2 z3 z1 z2 z3*z3) o1 o2 o3)))] (.tup [tH X Y Z W,N e])) :
    Ax.Pure Tryz.prog G 34 [tF (ratL o1) (ratL o2) (ratL o3) (ratL x1) (ratL x2) (ratL x3) (ratL y1) (ratL y2) (ratL y3) (ratL z1) (ratL z2) (ratL z3),tH m n l (ratL w)] (.tup [tH X Y Z W,N e]):=by
  have c_n:=a18 m n l (ratL w) (okI_i64 hh.1.1) (okI_i64 hh.1.2.1) (okI_i64 hh.1.2.2)
  have qm:=okI_Q hh.1.1
  have qn:=okI_Q hh.1.2.1
  have ql:=okI_Q hh.1.2.2
  have qw:=bigQ_Q hh.2.2
  have c_st:=j6 (k:=2400) (by decide) o1 o2 o3 x1 x2 x3 y1 y2 y3 z1 z2 z3 qx qy qz
  have dx:=Q_of (K:=15000) (Q_dot qx.1 qx.2.1 qx.2.2 qx.1 qx.2.1 qx.2.2) rfl
  have dy:=Q_of (K:=15000) (Q_dot qy.1 qy.2.1 qy.2.2 qy.1 qy.2.1 qy.2.2) rfl
  have dz:=Q_of (K:=15000) (Q_dot qz.1 qz.2.1 qz.2.2 qz.1 qz.2.1 qz.2.2) rfl
  generalize dot3 x1 x2 x3 x1 x2 x3=X0 at *
  generalize dot3 y1 y2 y3 y1 y2 y3=Y0 at *
  generalize dot3 z1 z2 z3 z1 z2 z3=Z0 at *
  have c_1:=r_Div (m:Rat) X0 nx (Q_of (K:=15000) qm rfl) dx (by decide)
  have c_2:=r_Div (n:Rat) Y0 ny (Q_of (K:=15000) qn rfl) dy (by decide)
  have c_3:=r_Div (l:Rat) Z0 nz (Q_of (K:=15000) ql rfl) dz (by decide)
  have q1:=Q_of (K:=20000) (Q_div qm dx) rfl
  have q2:=Q_of (K:=20000) (Q_div qn dy) rfl
  have q3:=Q_of (K:=20000) (Q_div ql dz) rfl
  generalize (m:Rat) / X0=a at *
  generalize (n:Rat) / Y0=b at *
  generalize (l:Rat) / Z0=c at *
  have c_di:=m7 (k:=20000) (by decide) o1 o2 o3 x1 x2 x3 y1 y2 y3 z1 z2 z3 a b c ⟨Q_of qx.1 rfl,Q_of qx.2.1 rfl,Q_of qx.2.2 rfl⟩ ⟨Q_of qy.1 rfl,Q_of qy.2.1 rfl,Q_of qy.2.2 rfl⟩ ⟨Q_of qz.1 rfl,Q_of qz.2.1 rfl,Q_of qz.2.2 rfl⟩ ⟨q1,q2,q3⟩
  have g1:=Q_of (K:=70000) (Q_add (Q_add (Q_mul q1 qx.1) (Q_mul q2 qy.1)) (Q_mul q3 qz.1)) rfl
  have g2:=Q_of (K:=70000) (Q_add (Q_add (Q_mul q1 qx.2.1) (Q_mul q2 qy.2.1)) (Q_mul q3 qz.2.1)) rfl
  have g3:=Q_of (K:=70000) (Q_add (Q_add (Q_mul q1 qx.2.2) (Q_mul q2 qy.2.2)) (Q_mul q3 qz.2.2)) rfl
  generalize a*x1+b*y1+c*z1=n1 at *
  generalize a*x2+b*y2+c*z2=n2 at *
  generalize a*x3+b*y3+c*z3=n3 at *
  have c_dt:=a23 (k:=70000) (by decide) n1 n2 n3 o1 o2 o3 ⟨g1,g2,g3⟩ ⟨Q_of qo.1 rfl,Q_of qo.2.1 rfl,Q_of qo.2.2 rfl⟩
  have c_ad:=r_AddQ w (dot3 n1 n2 n3 o1 o2 o3) (Q_of (K:=500000) qw rfl) (Q_of (Q_dot g1 g2 g3 (Q_of (K:=70000) qo.1 rfl) (Q_of qo.2.1 rfl) (Q_of qo.2.2 rfl)) rfl) (by decide)
  refine zen Tryz.func34 rfl Tryz.ntmps34 ?_
  intro w0 E0 hc
  repeat' (first|refine zR1 hc Tryz.results34 ?_|(with_reducible first|exact trivial|refine zan ?_ ?_|refine zim (fun h=>?_)|refine zoc c_n ?_ ?_|refine zoc c_st ?_ ?_|refine zoc c_1 ?_ ?_|refine zoc c_2 ?_ ?_|refine zoc c_3 ?_ ?_|refine zoc c_di ?_ ?_|refine zoc c_dt ?_ ?_|refine zoc c_ad ?_ ?_|refine zoc c_m ?_ ?_|fail)|(omega;done))
theorem c7 (o1 o2 o3 x1 x2 x3 y1 y2 y3 z1 z2 z3:Rat) (qo:Q 2400 o1∧Q 2400 o2∧Q 2400 o3) (qx:Q 2400 x1∧Q 2400 x2∧Q 2400 x3) (qy:Q 2400 y1∧Q 2400 y2∧Q 2400 y3) (qz:Q 2400 z1∧Q 2400 z2∧Q 2400 z3) (m n l:Int) (w:Rat) (hh:okH m n l w) {X Y Z:Int} {W:List UInt8} {e:Int} (c_m:Ax.Pure Tryz.prog G 40 [tV (ratL (dot3 (m:Rat) (n:Rat) (l:Rat) x1 x2 x3)) (ratL (dot3 (m:Rat) (n:Rat) (l:Rat) y1 y2 y3)) (ratL (dot3 (m:Rat) (n:Rat) (l:Rat) z1 z2 z3)),S (bs (ratL (w - dot3 (m:Rat) (n:Rat) (l:Rat) o1 o2 o3)))] (.tup [tH X Y Z W,N e])) :
    Ax.Pure Tryz.prog G 35 [tF (ratL o1) (ratL o2) (ratL o3) (ratL x1) (ratL x2) (ratL x3) (ratL y1) (ratL y2) (ratL y3) (ratL z1) (ratL z2) (ratL z3),tH m n l (ratL w)] (.tup [tH X Y Z W,N e]):=by
  have c_n:=a18 m n l (ratL w) (okI_i64 hh.1.1) (okI_i64 hh.1.2.1) (okI_i64 hh.1.2.2)
  have qm:=okI_Q hh.1.1
  have qn:=okI_Q hh.1.2.1
  have ql:=okI_Q hh.1.2.2
  have qw:=bigQ_Q hh.2.2
  have c_1:=a23 (k:=2400) (by decide) (m:Rat) (n:Rat) (l:Rat) x1 x2 x3 ⟨qm,qn,ql⟩ qx
  have c_2:=a23 (k:=2400) (by decide) (m:Rat) (n:Rat) (l:Rat) y1 y2 y3 ⟨qm,qn,ql⟩ qy
  have c_3:=a23 (k:=2400) (by decide) (m:Rat) (n:Rat) (l:Rat) z1 z2 z3 ⟨qm,qn,ql⟩ qz
  have c_4:=a23 (k:=2400) (by decide) (m:Rat) (n:Rat) (l:Rat) o1 o2 o3 ⟨qm,qn,ql⟩ qo
  have c_sb:=r_Sub w (dot3 (m:Rat) (n:Rat) (l:Rat) o1 o2 o3) (Q_of (K:=20000) qw rfl) (Q_of (Q_dot qm qn ql qo.1 qo.2.1 qo.2.2) rfl) (by decide)
  refine zen Tryz.func35 rfl Tryz.ntmps35 ?_
  intro w0 E0 hc
  repeat' (first|refine zR1 hc Tryz.results35 ?_|(with_reducible first|exact trivial|refine zan ?_ ?_|refine zim (fun h=>?_)|refine zoc c_n ?_ ?_|refine zoc c_1 ?_ ?_|refine zoc c_2 ?_ ?_|refine zoc c_3 ?_ ?_|refine zoc c_4 ?_ ?_|refine zoc c_sb ?_ ?_|refine zoc c_m ?_ ?_|fail)|(omega;done))
end Go.Proofs
end
section
set_option maxHeartbeats 8000000
set_option maxRecDepth 100000
namespace Go.Proofs
open Go.Ax
def n9 (f g:FuncId) (l:List AV):Prop:=∃(x y z:Int) (w:List UInt8) (e:Int),Ax.Pure Tryz.prog G f l (.tup [tH x y z w,N e])∧Ax.Pure Tryz.prog G g l (.tup [tH x y z w,N e])∧Ax.Pure Tryz.prog G 33 [tH x y z w,N e,N e,tH x y z w] (Bo true)
theorem j4 {f g:FuncId} {l:List AV} {k kd:Nat} (hk:k≤60000) (hkd:kd≤300000) {a b c d:Rat} (h0:¬(a=0∧b=0∧c=0)) (qa:Q k a) (qb:Q k b) (qc:Q k c) (qd:Q kd d)
    (s1:hOk a b c d→Ax.Pure Tryz.prog G f l (.tup [hT a b c d,N 0])) (s2:¬hOk a b c d→Ax.Pure Tryz.prog G f l (.tup [tH 0 0 0 [],N 4]))
    (r:∀{X Y Z:Int} {W:List UInt8} {e:Int},Ax.Pure Tryz.prog G 40 [tV (ratL a) (ratL b) (ratL c),S (bs (ratL d))] (.tup [tH X Y Z W,N e])→Ax.Pure Tryz.prog G g l (.tup [tH X Y Z W,N e])):n9 f g l:=by
  have c_m:=a34 hk hkd a b c d h0 qa qb qc qd
  by_cases h:hOk a b c d
  · rw [if_pos h] at c_m
    exact ⟨_,_,_,_,_,s1 h,r c_m,a4i _ _ _ _⟩
  · rw [if_neg h] at c_m
    exact ⟨_,_,_,_,_,s2 h,r c_m,a22 4 (by decide) _ _ _ _⟩
theorem m5 (x y z a b c:Rat):x*a+y*b+z*c=a*x+b*y+c*z:=by grind
theorem j8 {a b c d:V3} {h:H4} (hF:n4 a b c d) (hh:a13 h=0):n9 28 34 [txF a b c d,txH h]:=by
  obtain ⟨o1,o2,o3,x1,x2,x3,y1,y2,y3,z1,z2,z3,rfl,rfl,rfl,rfl,hF⟩:=hF
  obtain ⟨m,n,l,t⟩:=h
  obtain ⟨w,rfl,hh⟩:=a4c hh
  obtain ⟨ho,hx,hy,hz,hE⟩:=id hF
  have h1:=s_PlaceHalf o1 o2 o3 x1 x2 x3 y1 y2 y3 z1 z2 z3 hF m n l w hh
  have h2:=c8 o1 o2 o3 x1 x2 x3 y1 y2 y3 z1 z2 z3 hF m n l w hh
  have h0:=ph_ne (f8 hE).1 (f8 hE).2.1 (f8 hE).2.2 (m8 hE) (okH_ne hh)
  have qo:=okV_Q ho
  have qx:=okV_Q hx
  have qy:=okV_Q hy
  have qz:=okV_Q hz
  obtain ⟨nx,ny,nz⟩:=f8 hE
  have qm:=okI_Q hh.1.1
  have qn:=okI_Q hh.1.2.1
  have ql:=okI_Q hh.1.2.2
  have q1:=Q_div qm (Q_dot qx.1 qx.2.1 qx.2.2 qx.1 qx.2.1 qx.2.2)
  have q2:=Q_div qn (Q_dot qy.1 qy.2.1 qy.2.2 qy.1 qy.2.1 qy.2.2)
  have q3:=Q_div ql (Q_dot qz.1 qz.2.1 qz.2.2 qz.1 qz.2.1 qz.2.2)
  have g1:=Q_of (K:=60000) (Q_add (Q_add (Q_mul q1 qx.1) (Q_mul q2 qy.1)) (Q_mul q3 qz.1)) rfl
  have g2:=Q_of (K:=60000) (Q_add (Q_add (Q_mul q1 qx.2.1) (Q_mul q2 qy.2.1)) (Q_mul q3 qz.2.1)) rfl
  have g3:=Q_of (K:=60000) (Q_add (Q_add (Q_mul q1 qx.2.2) (Q_mul q2 qy.2.2)) (Q_mul q3 qz.2.2)) rfl
  have qd:=Q_of (K:=300000) (Q_add (bigQ_Q hh.2.2) (Q_add (Q_add (Q_mul g1 qo.1) (Q_mul g2 qo.2.1)) (Q_mul g3 qo.2.2))) rfl
  have r:=@f0 o1 o2 o3 x1 x2 x3 y1 y2 y3 z1 z2 z3 nx ny nz qo qx qy qz m n l w hh
  unfold phN at h0 h1 h2
  dsimp only at h0 h1 h2
  simp only [m5 x1 y1 z1,m5 x2 y2 z2,m5 x3 y3 z3] at h0 h1 h2
  exact j4 (Nat.le_refl _) (Nat.le_refl _) h0 g1 g2 g3 qd h1 h2 r
theorem j9 {a b c d:V3} {h:H4} (hF:n4 a b c d) (hh:a13 h=0):n9 29 35 [txF a b c d,txH h]:=by
  obtain ⟨o1,o2,o3,x1,x2,x3,y1,y2,y3,z1,z2,z3,rfl,rfl,rfl,rfl,hF⟩:=hF
  obtain ⟨m,n,l,t⟩:=h
  obtain ⟨w,rfl,hh⟩:=a4c hh
  obtain ⟨ho,hx,hy,hz,hE⟩:=id hF
  have qo:=okV_Q ho
  have qx:=okV_Q hx
  have qy:=okV_Q hy
  have qz:=okV_Q hz
  have qm:=okI_Q hh.1.1
  have qn:=okI_Q hh.1.2.1
  have ql:=okI_Q hh.1.2.2
  exact j4 (k:=20000) (kd:=20000) (by decide) (by decide) (m6 (axE_zero hE).2.2.2.2 (okH_ne hh)) (Q_of (Q_dot qm qn ql qx.1 qx.2.1 qx.2.2) rfl) (Q_of (Q_dot qm qn ql qy.1 qy.2.1 qy.2.2) rfl) (Q_of (Q_dot qm qn ql qz.1 qz.2.1 qz.2.2) rfl) (Q_of (Q_sub (bigQ_Q hh.2.2) (Q_dot qm qn ql qo.1 qo.2.1 qo.2.2)) rfl)
    (i7 o1 o2 o3 x1 x2 x3 y1 y2 y3 z1 z2 z3 hF m n l w hh) (c6 o1 o2 o3 x1 x2 x3 y1 y2 y3 z1 z2 z3 hF m n l w hh) (@c7 o1 o2 o3 x1 x2 x3 y1 y2 y3 z1 z2 z3 qo qx qy qz m n l w hh)
theorem a4b (a b c d:V3) (h:H4) (hi:i64 h.x∧i64 h.y∧i64 h.z):Ax.Pure Tryz.prog G 4 [txF a b c d,txH h] (Bo true):=by
  have c_aw:=c_awake
  have c_sf:=n5 30 (by decide) a b c d
  have hsd:=bs_size h.d
  by_cases hf:a2q 30 [a,b,c,d]=true
  rotate_left
  · rw [Bool.eq_false_iff.2 hf] at c_sf
    refine zen Tryz.func4 rfl Tryz.ntmps4 ?_
    intro w0 E0 hc
    repeat' (first|(with_reducible first|refine Wp_seq ?_|refine zr0 hc ?_|refine zm0 hc ?_|refine zwk ?_|refine Wp_block ?_|refine zgo ?_|refine zbn ?_|refine zge Tryz.results4 ?_|refine Sub.refl _|refine allP_nil|refine zoa1 (out':=?_) ?_|refine zca1 (y:=?_) ?_|refine zea1 (eo':=?_) ?_)|(with_reducible refine allP_cons ?_ ?_;focus (first|decide|omega))|(with_reducible first|refine zg2 ?_ ?_|refine zoc c_aw ?_ ?_|refine zoc c_sf ?_ ?_|refine zbo ?_|refine zg3 ?_ (fun h=>?_) (fun h=>?_)|refine zg4 (fun h=>?_) (fun h=>?_)|fail)|((first|omega|(refine nf1 ?_;with_reducible assumption)|(refine nf2 ?_;with_reducible assumption));done))
  rw [hf] at c_sf
  by_cases lc:h.d.length≤30
  rotate_left
  · have lc':30 < (bs h.d).size:=by omega
    refine zen Tryz.func4 rfl Tryz.ntmps4 ?_
    intro w0 E0 hc
    repeat' (first|(with_reducible first|refine Wp_seq ?_|refine zr0 hc ?_|refine zm0 hc ?_|refine zwk ?_|refine Wp_block ?_|refine zgo ?_|refine zbn ?_|refine zge Tryz.results4 ?_|refine Sub.refl _|refine allP_nil|refine zoa1 (out':=?_) ?_|refine zca1 (y:=?_) ?_|refine zea1 (eo':=?_) ?_)|(with_reducible refine allP_cons ?_ ?_;focus (first|decide|omega))|(with_reducible first|refine zg2 ?_ ?_|refine zoc c_aw ?_ ?_|refine zoc c_sf ?_ ?_|refine zbo ?_|refine zg3 ?_ (fun h=>?_) (fun h=>?_)|refine zg4 (fun h=>?_) (fun h=>?_)|fail)|((first|omega|(refine nf1 ?_;with_reducible assumption)|(refine nf2 ?_;with_reducible assumption));done))
  obtain ⟨sa,sb,sc,sd⟩:=r7.1 hf
  have sa:=a2a sa (by decide)
  have sb:=a2a sb (by decide)
  have sc:=a2a sc (by decide)
  have sd:=a2a sd (by decide)
  have sh:a16 h:=⟨hi,by omega⟩
  obtain ⟨e,hE,hG⟩:=r5 a b c d
  have c_ch:=j7 sa sb sc sd hE
  have r_ch:=j5 sa sb sc sd hE
  have r_hh:=a17 sh.2
  have c_f:=l_first2 e (a13 h)
  by_cases he:firstNZ [e,a13 h]=0
  rotate_left
  · have c_pl:=c5 a b c d e c_ch h sh he
    have c_lo:=a8 a b c d e c_ch h sh he
    have p_p:=a22 _ he 0 0 0 []
    clear hE hG hsd
    generalize firstNZ [e,a13 h]=e1 at *
    generalize a13 h=e2 at *
    refine zen Tryz.func4 rfl Tryz.ntmps4 ?_
    intro w0 E0 hc
    repeat' (first|(with_reducible first|refine Wp_seq ?_|refine zr0 hc ?_|refine zm0 hc ?_|refine zwk ?_|refine Wp_block ?_|refine zgo ?_|refine zbn ?_|refine zge Tryz.results4 ?_|refine Sub.refl _|refine allP_nil|refine zoa1 (out':=?_) ?_|refine zca1 (y:=?_) ?_|refine zea1 (eo':=?_) ?_)|(with_reducible refine allP_cons ?_ ?_;focus (first|decide|omega))|(with_reducible first|refine zg2 ?_ ?_|refine zoc c_aw ?_ ?_|refine zoc c_sf ?_ ?_|refine zoc r_ch ?_ ?_|refine zoc r_hh ?_ ?_|refine zoc c_f ?_ ?_|refine zoc c_pl ?_ ?_|refine zoc c_lo ?_ ?_|refine zoc p_p ?_ ?_|refine zbo ?_|refine zg3 ?_ (fun h=>?_) (fun h=>?_)|refine zg4 (fun h=>?_) (fun h=>?_)|fail)|((first|omega|(refine nf1 ?_;with_reducible assumption)|(refine nf2 ?_;with_reducible assumption));done))
  rw [he] at c_f
  obtain ⟨rfl,eh⟩:=r6 he
  have hF:=hG rfl
  rw [eh] at r_hh c_f
  obtain ⟨_,_,_,_,_,c_pl,r_pl,p_pl⟩:=j8 hF eh
  obtain ⟨_,_,_,_,_,c_lo,r_lo,p_lo⟩:=j9 hF eh
  clear hE hG
  refine zen Tryz.func4 rfl Tryz.ntmps4 ?_
  intro w0 E0 hc
  repeat' (first|(with_reducible first|refine Wp_seq ?_|refine zr0 hc ?_|refine zm0 hc ?_|refine zwk ?_|refine Wp_block ?_|refine zgo ?_|refine zbn ?_|refine zge Tryz.results4 ?_|refine Sub.refl _|refine allP_nil|refine zoa1 (out':=?_) ?_|refine zca1 (y:=?_) ?_|refine zea1 (eo':=?_) ?_)|(with_reducible refine allP_cons ?_ ?_;focus (first|decide|omega))|(with_reducible first|refine zg2 ?_ ?_|refine zoc c_aw ?_ ?_|refine zoc c_sf ?_ ?_|refine zoc r_ch ?_ ?_|refine zoc r_hh ?_ ?_|refine zoc c_f ?_ ?_|refine zoc c_pl ?_ ?_|refine zoc r_pl ?_ ?_|refine zoc p_pl ?_ ?_|refine zoc c_lo ?_ ?_|refine zoc r_lo ?_ ?_|refine zoc p_lo ?_ ?_|refine zbo ?_|refine zg3 ?_ (fun h=>?_) (fun h=>?_)|refine zg4 (fun h=>?_) (fun h=>?_)|fail)|((first|omega|(refine nf1 ?_;with_reducible assumption)|(refine nf2 ?_;with_reducible assumption));done))
end Go.Proofs
end
