/- Lemmas on the program and its library, part 20. -/
import Derived.Test.YtoiejgkkcfkliaaGreatDoorZ18
set_option linter.unusedVariables false
set_option linter.unusedSimpArgs false
section
set_option maxHeartbeats 4000000
set_option maxRecDepth 100000
namespace Go.Proofs
open Go.Ax
theorem c_mulWords (x y:List Nat) (hx:∀d∈x,d < BB) (hy:∀d∈y,d < BB) (lx:x.length≤1000000000000) (ly:y.length≤1000000000000):Ax.Pure Tryz.prog G 251 [L (toI x),L (toI y)] (L (toI (digs BB (val BB x*val BB y)))):=by
  have lx':=toI_len x
  have ly':=toI_len y
  have w1:(IntKind.i64.wrap (↑(toI x).length+↑(toI y).length)).toNat=x.length+y.length:=by rw [IntKind.wrap_i64];omega
  refine zen Tryz.func251 rfl Tryz.ntmps251 ?_
  intro w0 E0 hc
  repeat' (first|refine zR0 hc Tryz.results251 ?_|(with_reducible first|exact trivial|refine zan ?_ ?_|refine zim (fun h=>?_)|fail)|(first|omega|(simp only [IntKind.wrap_i64,IntKind.wrap_u64,Bool.and_self,true_and,and_true];omega);done))
  refine Wp_loopI (α:=Nat×List Nat) (fun p=>stOf [(0,L (toI x)),(1,L (toI y)),(5,.one (.own 0 1 0 (x.length+y.length) (x.length+y.length))),(20,L (toI x)),(21,N x.length),(22,N p.1)] [(0,⟨1,x.length+y.length,fun i=> [.v (.int .u64 (p.2.getD i 0:Nat))],false⟩)] 1)
    (fun p=>MulRows BB x y p.2 p.1) (fun p=>x.length - p.1) (0,List.replicate (x.length+y.length) 0) (MulRows.zero' (by decide) _ _) ?_ ?_
  · refine zW0 ?_ <;> repeat' (with_reducible first|exact trivial|refine zan ?_ ?_|refine zal (fun i hi=>?_))
    rw [List.getD_eq_getElem?_getD,List.getElem?_replicate]
    split <;> rfl
  · rintro ⟨i,o⟩ hR
    dsimp only at hR
    have gx:=toI_get x i
    have hi:=hR.hi
    have hlen:=hR.len
    repeat' (first|(with_reducible first|refine Wp_seq ?_|refine zwk ?_|refine Wp_block ?_|refine zgo ?_|refine zbn ?_|refine zge Tryz.results251 ?_|refine Sub.refl _|refine allP_nil|refine zoa0 (out':=?_) ?_|refine zca0 (y:=?_) ?_|refine zea0 (eo':=?_) ?_)|(with_reducible refine zrs [18] hc ?_ ?_;focus (with_unfolding_all rfl))|(with_reducible refine zrm [18] hc mixed ?_ ?_;focus (with_unfolding_all rfl))|(with_reducible refine allP_cons ?_ ?_;focus (first|decide|omega))|(with_reducible first|refine zg2 ?_ ?_|refine zbo ?_|refine zg3 ?_ (fun h=>?_) (fun h=>?_)|refine zg4 (fun h=>?_) (fun h=>?_)|fail)|(first|omega|(simp only [IntKind.wrap_i64,IntKind.wrap_u64,Bool.and_self,true_and,and_true];omega);done))
    · refine Wp_loopI (α:=Nat×List Nat×Nat) (fun p=>stOf [(0,L (toI x)),(1,L (toI y)),(5,.one (.own 0 1 0 (x.length+y.length) (x.length+y.length))),(6,N i),(7,U (x.getD i 0:Nat)),(8,U p.2.2),(20,L (toI x)),(21,N x.length),(22,N i),(27,L (toI y)),(28,N y.length),(29,N p.1)] [(0,⟨1,x.length+y.length,fun i=> [.v (.int .u64 (p.2.1.getD i 0:Nat))],false⟩)] 1)
        (fun p=>p.2.1.length=x.length+y.length∧MulTo BB (val BB (x.take i)*val BB y) i (x.getD i 0) y p.2.1 p.1 p.2.2) (fun p=>y.length - p.1) (0,o,0) ⟨hR.len,hR.start (by omega) (by decide)⟩ ?_ ?_
      · refine zW0 ?_ <;> repeat' (with_reducible first|exact trivial|refine zan ?_ ?_|refine zal (fun i hi=>?_))
        rfl
      · rintro ⟨j,o,c⟩ ⟨ho,hM⟩
        dsimp only at ho hM
        have hj:=hM.hj
        have gy:=toI_get y j
        have wij:IntKind.i64.wrap (↑i+↑j)=((i+j:Nat):Int):=by rw [IntKind.wrap_i64];omega
        have wil:IntKind.i64.wrap (↑i+↑(toI y).length)=((i+y.length:Nat):Int):=by rw [IntKind.wrap_i64];omega
        have bx:x.getD i 0 < BB:=getD_lt (by decide) hx i
        have by':y.getD j 0 < BB:=getD_lt (by decide) hy j
        have ba:o.getD (i+j) 0 < BB:=getD_lt (by decide) hM.lt (i+j)
        have hcc:=hM.hc
        repeat' (first|(with_reducible first|refine Wp_seq ?_|refine zwk ?_|refine Wp_block ?_|refine zgo ?_|refine zbn ?_|refine zge Tryz.results251 ?_|refine Sub.refl _|refine allP_nil|refine zoa0 (out':=?_) ?_|refine zca0 (y:=?_) ?_|refine zea0 (eo':=?_) ?_)|(with_reducible refine zrs [18] hc ?_ ?_;focus (with_unfolding_all rfl))|(with_reducible refine zrm [18] hc mixed ?_ ?_;focus (with_unfolding_all rfl))|(with_reducible refine allP_cons ?_ ?_;focus (first|decide|omega))|(with_reducible first|refine zg2 ?_ ?_|refine zoc (c_Mul64 _ _ ?_) ?_ ?_|refine zocx (c_Add64 _ _ _ ?_) ?_ ?_|refine zbo ?_|refine zg3 ?_ (fun h=>?_) (fun h=>?_)|refine zg4 (fun h=>?_) (fun h=>?_)|fail)|((first|omega|(simp only [wij,wil,Int.toNat_natCast,Bool.and_self,true_and,and_true];omega));done))
        · rw [gy];simp only [BB] at bx by';omega
        · have ⟨m1,m2⟩:=mul_acc (B:=BB) (hi:=x.getD i 0*y.getD j 0 / BB) (lo:=x.getD i 0*y.getD j 0%BB) bx by' ba hcc (Nat.div_add_mod _ _).symm (Nat.div_add_mod _ _).symm (Nat.div_add_mod _ _).symm (Nat.mod_lt _ (by decide))
          refine ⟨(j+1,_,_),⟨?_,hM.step (by omega) (Nat.mod_lt _ (by decide)) m1 m2⟩,?_,?_⟩
          · simp only [List.length_set];exact ho
          · dsimp only;omega
          · have m3:((x.getD i 0*y.getD j 0 / BB+(x.getD i 0*y.getD j 0%BB+o.getD (i+j) 0) / BB+((x.getD i 0*y.getD j 0%BB+o.getD (i+j) 0)%BB+c) / BB:Nat):Int)=IntKind.u64.wrap (IntKind.u64.wrap (↑(x.getD i 0)*↑(y.getD j 0) / 18446744073709551616+(↑(x.getD i 0)*↑(y.getD j 0)%18446744073709551616+↑(o.getD (i+j) 0)) / 18446744073709551616)+((↑(x.getD i 0)*↑(y.getD j 0)%18446744073709551616+↑(o.getD (i+j) 0))%18446744073709551616+↑c) / 18446744073709551616):=by
              rw [←Int.natCast_mul,IntKind.wrap_u64,IntKind.wrap_u64]
              clear m2
              generalize x.getD i 0*y.getD j 0=P at *
              generalize o.getD (i+j) 0=a at *
              simp only [BB] at *
              omega
            have m4:((((x.getD i 0*y.getD j 0%BB+o.getD (i+j) 0)%BB+c)%BB:Nat):Int)=((↑(x.getD i 0)*↑(y.getD j 0)%18446744073709551616+↑(o.getD (i+j) 0))%18446744073709551616+↑c)%18446744073709551616:=by
              rw [←Int.natCast_mul]
              generalize x.getD i 0*y.getD j 0=P at *
              generalize o.getD (i+j) 0=a at *
              simp only [BB]
              omega
            refine zW0 ?_ <;> repeat' (with_reducible first|exact trivial|refine zan ?_ ?_|refine zal (fun i hi=>?_))
            · rw [m3];simp only [wij,gy,Int.toNat_natCast,Nat.zero_add,Int.add_zero]
            · exact box_set _ (by rw [wij,Nat.zero_add,Int.toNat_natCast]) (by rw [m4];simp only [wij,gy,Int.toNat_natCast,Nat.zero_add,Int.add_zero]) (by omega)
        · refine ⟨(i+1,_),MulRows.next (by omega) ho ((show j=y.length by omega) ▸ hM),?_,?_⟩
          · dsimp only;omega
          · refine zW0 ?_ <;> repeat' (with_reducible first|exact trivial|refine zan ?_ ?_|refine zal (fun i hi=>?_))
            exact box_set _ (by rw [wil,Nat.zero_add,Int.toNat_natCast]) rfl (by omega)
    · refine Wp_frz hc 0 5 (x.length+y.length) .u64 (toI o) [] [] 1 [] [] ?_ (Nat.le_refl _) (by simp [hlen]) rfl rfl (fun _ h=>by cases h) ?_
      · refine zW0 ?_ <;> repeat' (with_reducible first|exact trivial|refine zan ?_ ?_|refine zal (fun i hi=>?_))
        rw [toI_get]
      · repeat' (first|refine zR0 hc Tryz.results251 ?_|(with_reducible first|exact trivial|refine zan ?_ ?_|refine zim (fun h=>?_)|refine zoc (c_trim _ ?_) ?_ ?_|fail)|(first|omega|(simp only [IntKind.wrap_i64,IntKind.wrap_u64,Bool.and_self,true_and,and_true];omega);done))
        obtain rfl:i=x.length:=by omega
        exact sub_eq (by rw [trimL_digs (by decide) hR.lt,hR.done])
end Go.Proofs
end
section
set_option maxHeartbeats 4000000
set_option maxRecDepth 100000
namespace Go.Proofs
open Go.Ax
theorem len8_of {a:Array UInt8} (hs:∀i:Fin 256,(a.getD i.1 0).toNat=bl i.1) {x:Nat} (hx:x < 256):(a.getD x 0).toNat=bl x:=hs ⟨x,hx⟩
theorem c0_Len64 (x:Nat) (hx:x < BB):Ax.Pure Tryz.prog G0 287 [U x] (N (bl x)):=by
  have hx':x < 18446744073709551616:=hx
  refine zen Tryz.func287 rfl Tryz.ntmps287 ?_
  intro w0 E0 hc
  repeat' (first|(with_reducible first|refine Wp_seq (x:=.region _ _ _) ?_|refine Wp_seq (x:=.seq _ _) ?_|refine Wp_seq (x:=.block _ _) ?_|refine Wp_seq (x:=.loop _) ?_|refine Wp_seq (x:=.skip) ?_|refine zr0 hc ?_|refine zm0 hc ?_|refine Wp_block ?_|refine zgo ?_|refine zbn ?_|refine zge Tryz.results287 ?_|refine Sub.refl _|refine allP_nil|refine zoa0 (out':=?_) ?_|refine zca0 (y:=?_) ?_|refine zea0 (eo':=?_) ?_)|(with_reducible refine allP_cons ?_ ?_;focus (first|decide|omega))|(with_reducible first|refine zg2 ?_ ?_|refine zbo ?_|refine zg3 ?_ (fun h=>?_) (fun h=>?_)|refine zg4 (fun h=>?_) (fun h=>?_)|fail)|(omega;done))
  refine Wp_join (α:=Nat×Nat) (fun p=>stOf [(0,U p.1),(2,N p.2)] [] 0) (fun p=>p.1 < 4294967296∧p.2≤32∧p.2+bl p.1=bl x) ?_ ?_
  · repeat' (first|refine zR0 hc Tryz.results287 ?_|(with_reducible first|exact trivial|refine zan ?_ ?_|refine zim (fun h=>?_)|fail)|(omega;done))
    · refine ⟨(x / 2 ^ 32,32),⟨by dsimp only;omega,by omega,bl_shift (k:=32) (by omega)⟩,?_⟩
      refine zW0 ?_ <;> repeat' (with_reducible first|exact trivial|refine zan ?_ ?_|refine zal (fun i hi=>?_))
      rw [fdivK _ 32 (by decide)]
    · refine ⟨(x,0),⟨by dsimp only;omega,by omega,by dsimp only;omega⟩,?_⟩
      refine zW0 ?_ <;> repeat' (with_reducible first|exact trivial|refine zan ?_ ?_|refine zal (fun i hi=>?_))
  rintro ⟨x1,n1⟩ ⟨h1,h2,h3⟩
  dsimp only at h1 h2 h3
  repeat' (first|(with_reducible first|refine Wp_seq (x:=.region _ _ _) ?_|refine Wp_seq (x:=.seq _ _) ?_|refine Wp_seq (x:=.block _ _) ?_|refine Wp_seq (x:=.loop _) ?_|refine Wp_seq (x:=.skip) ?_|refine zr0 hc ?_|refine zm0 hc ?_|refine Wp_block ?_|refine zgo ?_|refine zbn ?_|refine zge Tryz.results287 ?_|refine Sub.refl _|refine allP_nil|refine zoa0 (out':=?_) ?_|refine zca0 (y:=?_) ?_|refine zea0 (eo':=?_) ?_)|(with_reducible refine allP_cons ?_ ?_;focus (first|decide|omega))|(with_reducible first|refine zg2 ?_ ?_|refine zbo ?_|refine zg3 ?_ (fun h=>?_) (fun h=>?_)|refine zg4 (fun h=>?_) (fun h=>?_)|fail)|(omega;done))
  refine Wp_join (α:=Nat×Nat) (fun p=>stOf [(0,U p.1),(2,N p.2)] [] 0) (fun p=>p.1 < 65536∧p.2≤48∧p.2+bl p.1=bl x) ?_ ?_
  · repeat' (first|refine zR0 hc Tryz.results287 ?_|(with_reducible first|exact trivial|refine zan ?_ ?_|refine zim (fun h=>?_)|fail)|(omega;done))
    · refine ⟨(x1 / 2 ^ 16,n1+16),⟨by dsimp only;omega,by dsimp only;omega,by dsimp only;rw [Nat.add_assoc,bl_shift (by omega),h3]⟩,?_⟩
      refine zW0 ?_ <;> repeat' (with_reducible first|exact trivial|refine zan ?_ ?_|refine zal (fun i hi=>?_))
      rw [fdivK _ 16 (by decide)]
    · refine ⟨(x1,n1),⟨by dsimp only;omega,by dsimp only;omega,h3⟩,?_⟩
      refine zW0 ?_ <;> repeat' (with_reducible first|exact trivial|refine zan ?_ ?_|refine zal (fun i hi=>?_))
  clear h1 h2 h3 x1 n1
  rintro ⟨x1,n1⟩ ⟨h1,h2,h3⟩
  dsimp only at h1 h2 h3
  repeat' (first|(with_reducible first|refine Wp_seq (x:=.region _ _ _) ?_|refine Wp_seq (x:=.seq _ _) ?_|refine Wp_seq (x:=.block _ _) ?_|refine Wp_seq (x:=.loop _) ?_|refine Wp_seq (x:=.skip) ?_|refine zr0 hc ?_|refine zm0 hc ?_|refine Wp_block ?_|refine zgo ?_|refine zbn ?_|refine zge Tryz.results287 ?_|refine Sub.refl _|refine allP_nil|refine zoa0 (out':=?_) ?_|refine zca0 (y:=?_) ?_|refine zea0 (eo':=?_) ?_)|(with_reducible refine allP_cons ?_ ?_;focus (first|decide|omega))|(with_reducible first|refine zg2 ?_ ?_|refine zbo ?_|refine zg3 ?_ (fun h=>?_) (fun h=>?_)|refine zg4 (fun h=>?_) (fun h=>?_)|fail)|(omega;done))
  refine Wp_join (α:=Nat×Nat) (fun p=>stOf [(0,U p.1),(2,N p.2)] [] 0) (fun p=>p.1 < 256∧p.2≤56∧p.2+bl p.1=bl x) ?_ ?_
  · repeat' (first|refine zR0 hc Tryz.results287 ?_|(with_reducible first|exact trivial|refine zan ?_ ?_|refine zim (fun h=>?_)|fail)|(omega;done))
    · refine ⟨(x1 / 2 ^ 8,n1+8),⟨by dsimp only;omega,by dsimp only;omega,by dsimp only;rw [Nat.add_assoc,bl_shift (by omega),h3]⟩,?_⟩
      refine zW0 ?_ <;> repeat' (with_reducible first|exact trivial|refine zan ?_ ?_|refine zal (fun i hi=>?_))
      rw [fdivK _ 8 (by decide)]
    · refine ⟨(x1,n1),⟨by dsimp only;omega,by dsimp only;omega,h3⟩,?_⟩
      refine zW0 ?_ <;> repeat' (with_reducible first|exact trivial|refine zan ?_ ?_|refine zal (fun i hi=>?_))
  clear h1 h2 h3 x1 n1
  rintro ⟨x1,n1⟩ ⟨h1,h2,h3⟩
  dsimp only at h1 h2 h3
  repeat' (first|refine zR0 hc Tryz.results287 ?_|(with_reducible first|exact trivial|refine zan ?_ ?_|refine zim (fun h=>?_)|fail)|(omega;done))
  · rw [show IntKind.u8.wrap (x1:Int)=x1 by rw [IntKind.wrap_u8];omega]
    exact ⟨by omega,by show _ < ((256:Nat):Int);omega⟩
  · rw [show IntKind.u8.wrap (x1:Int)=x1 by rw [IntKind.wrap_u8];omega,Int.toNat_natCast,len8_of ?hs h1]
    · have:=bl_le_of (n:=8) h1
      refine sub_eq ?_
      have e1:=wrapI (a:=((bl x1:Nat):Int)) (by omega) (by omega)
      rw [e1,wrapI (by omega) (by omega),←h3]
      rfl
    case hs=>decide +kernel
theorem c0_LeadingZeros64 (x:Nat) (hx:x < BB):Ax.Pure Tryz.prog G0 269 [U x] (N (64 - bl x:Nat)):=by
  have:=bl_le_of (n:=64) hx
  refine zen Tryz.func269 rfl Tryz.ntmps269 ?_
  intro w0 E0 hc
  repeat' (first|refine zR0 hc Tryz.results269 ?_|(with_reducible first|exact trivial|refine zan ?_ ?_|refine zim (fun h=>?_)|refine zoc (c0_Len64 _ ?_) ?_ ?_|fail)|((first|exact hx|omega);done))
  all_goals exact sub_eq (by rw [wrapI (by omega) (by omega)];congr 4;omega)
theorem c_LeadingZeros64 (x:Nat) (hx:x < BB):Ax.Pure Tryz.prog G 269 [U x] (N (64 - bl x:Nat)):=pure_any (c0_LeadingZeros64 x hx)
theorem c_LeadingZeros64i (x:Int) (h:0≤x∧x < 18446744073709551616):Ax.Pure Tryz.prog G 269 [U x] (N (64 - bl x.toNat:Nat)):=by
  obtain ⟨x,rfl⟩:=Int.eq_ofNat_of_zero_le h.1
  exact c_LeadingZeros64 x (show x < 18446744073709551616 by omega)
theorem c_shiftUp (w:List Nat) (s:Nat) (hw:∀d∈w,d < BB) (hs:s < 64) (lw:w.length≤1000000000000):FreshC Tryz.prog G 270 [L (toI w),N s] 1 (w.length+1) (w.length+1) (w.length+1) (fun i=> [.v (.int .u64 ((fixd BB (w.length+1) (val BB w*2 ^ s)).getD i 0:Nat))]):=by
  have lw':=toI_len w
  have w1:(IntKind.i64.wrap (↑(toI w).length+1)).toNat=w.length+1:=by rw [IntKind.wrap_i64];omega
  refine fresh_of_wp tt_ok Tryz.func270 rfl (by kernel_rfl) G_below (by simp [clV,AV.cl,clL,Leaf.cl]) (by rw [Tryz.ntmps270];exact of_decide_eq_true rfl) (t:=4) (fun _ _=>⟨trivial,trivial⟩) Tryz.results270 ?_
  intro w0 E0 hc
  repeat' (first|refine zR0 hc Tryz.results270 ?_|(with_reducible first|exact trivial|refine zan ?_ ?_|refine zim (fun h=>?_)|fail)|(first|omega|(simp only [IntKind.wrap_i64,IntKind.wrap_u64,Bool.and_self,true_and,and_true];omega);done))
  refine Wp_loopI (α:=Nat×List Nat) (fun p=>stOf [(1,N s),(5,.one (.own 0 1 0 (w.length+1) (w.length+1))),(12,L (toI w)),(13,N w.length),(14,N p.1)] [(0,⟨1,w.length+1,fun i=> [.v (.int .u64 (p.2.getD i 0:Nat))],false⟩)] 1)
    (fun p=>ShTo s w p.2 p.1) (fun p=>w.length - p.1) (0,List.replicate (w.length+1) 0) (ShTo.nil _ _) ?_ ?_
  · refine zW0 ?_ <;> repeat' (with_reducible first|exact trivial|refine zan ?_ ?_|refine zal (fun i hi=>?_))
    rw [List.getD_eq_getElem?_getD,List.getElem?_replicate]
    split <;> rfl
  · rintro ⟨i,o⟩ hA
    dsimp only at hA
    have gw:=toI_get w i
    have hi:=hA.hi
    have hlen:=hA.len
    have hx:=getD_lt (by decide:0 < BB) hw i
    obtain ⟨d1,d2,d3,d4⟩:=sh_digit (x:=w.getD i 0) (s:=s) hx hs
    have hlow:=hA.low
    have hstep:=hA.step hs hw
    have wi:IntKind.i64.wrap ((i:Int)+1)=((i+1:Nat):Int):=by rw [IntKind.wrap_i64];omega
    have ws:IntKind.i64.wrap (64 - (s:Int))=((64 - s:Nat):Int):=by rw [IntKind.wrap_i64];omega
    have ho:=hA.lt
    have hoi:=getD_lt (by decide:0 < BB) ho i
    repeat' (first|(with_reducible first|refine Wp_seq ?_|refine zwk ?_|refine Wp_block ?_|refine zgo ?_|refine zbn ?_|refine zge Tryz.results270 ?_|refine Sub.refl _|refine allP_nil|refine zoa0 (out':=?_) ?_|refine zca0 (y:=?_) ?_|refine zea0 (eo':=?_) ?_)|(with_reducible refine zrs [6,9] hc ?_ ?_;focus (with_unfolding_all rfl))|(with_reducible refine zrm [6,9] hc mixed ?_ ?_;focus (with_unfolding_all rfl))|(with_reducible refine allP_cons ?_ ?_;focus (first|decide|omega))|(with_reducible first|refine zg2 ?_ ?_|refine zbo ?_|refine zg3 ?_ (fun h=>?_) (fun h=>?_)|refine zg4 (fun h=>?_) (fun h=>?_)|fail)|((first|omega|(simp only [wi,ws,and_true];omega));done))
    · refine Wp_weaker (st':=stOf [(1,N s),(5,.one (.own 0 1 0 (w.length+1) (w.length+1))),(6,N i),(7,U (w.getD i 0:Nat)),(12,L (toI w)),(13,N w.length),(14,N i)] [(0,⟨1,w.length+1,fun j=> [.v (.int .u64 ((o.set i (o.getD i 0+w.getD i 0*2 ^ s%BB)).getD j 0:Nat))],false⟩)] 1) ?_ ?_
      · clear hi
        have e:=shlN (w.getD i 0) s s rfl (by omega)
        rw [Int.toNat_natCast] at e
        refine zW0 ?_ <;> repeat' (with_reducible first|exact trivial|refine zan ?_ ?_|refine zal (fun i hi=>?_))
        refine box_set _ (Nat.zero_add _) ?_ (by omega)
        rw [gw,Nat.zero_add]
        rw [e]
        exact or_add hlow d4 hoi (Nat.mod_lt _ (by decide))
      repeat' (first|(with_reducible first|refine Wp_seq ?_|refine zwk ?_|refine Wp_block ?_|refine zgo ?_|refine zbn ?_|refine zge Tryz.results270 ?_|refine Sub.refl _|refine allP_nil|refine zoa0 (out':=?_) ?_|refine zca0 (y:=?_) ?_|refine zea0 (eo':=?_) ?_)|(with_reducible refine zrs [9] hc ?_ ?_;focus (with_unfolding_all rfl))|(with_reducible refine zrm [9] hc mixed ?_ ?_;focus (with_unfolding_all rfl))|(with_reducible refine allP_cons ?_ ?_;focus (first|decide|omega))|(with_reducible first|refine zg2 ?_ ?_|refine zbo ?_|refine zg3 ?_ (fun h=>?_) (fun h=>?_)|refine zg4 (fun h=>?_) (fun h=>?_)|fail)|((first|omega|(simp only [wi,ws,and_true];omega));done))
      · refine ⟨(i+1,_),hstep (by omega),?_,?_⟩
        · dsimp only;omega
        · refine zW0 ?_ <;> repeat' (with_reducible first|exact trivial|refine zan ?_ ?_|refine zal (fun i hi=>?_))
          refine box_set _ (by rw [wi,Nat.zero_add,Int.toNat_natCast]) ?_ (by rw [List.length_set];omega)
          rw [fdivN _ (64 - s) _ (by rw [ws];rfl) (by omega),d1]
      · obtain rfl:s=0:=by omega
        refine ⟨(i+1,_),hstep (by omega),?_,?_⟩
        · dsimp only;omega
        · refine zW0 ?_ <;> repeat' (with_reducible first|exact trivial|refine zan ?_ ?_|refine zal (fun i hi=>?_))
          rw [d1,Nat.div_eq_of_lt hx,set_same]
          · rw [getD_set _ _ (by omega),if_neg (by omega)];exact hA.zero _ (by omega)
          · rw [List.length_set];omega
    · have hiw:i=w.length:=by omega
      subst hiw
      have e:=fixd_eq (by decide) ho hlen hA.eq
      rw [List.take_length] at e
      repeat' (first|refine zR0 hc Tryz.results270 ?_|(with_reducible first|exact trivial|refine zan ?_ ?_|refine zim (fun h=>?_)|fail)|(omega;done))
      all_goals exact ⟨.inr rfl,0,_,rfl,rfl,fun j _=>by rw [e]⟩
theorem p_shiftUp (w:List Nat) (s:Nat) (hw:∀d∈w,d < BB) (hs:s < 64) (lw:w.length≤1000000000000):Ax.Pure Tryz.prog G 270 [L (toI w),N s] (L (toI (fixd BB (w.length+1) (val BB w*2 ^ s)))):=
  pure_of_fresh .u64 _ (c_shiftUp w s hw hs lw) (by rw [toI_len,fixd_len]) (fun i _=>by rw [toI_get])
end Go.Proofs
end
section
set_option maxHeartbeats 4000000
set_option maxRecDepth 100000
namespace Go.Proofs
open Go.Ax
theorem c0_Div64 (hi lo y:Nat) (hhi:hi < y) (hlo:lo < BB) (hy:y < BB):Ax.Pure Tryz.prog G0 267 [U hi,U lo,U y] (.tup [U ((hi*BB+lo) / y:Nat),U ((hi*BB+lo)%y:Nat)]):=by
  have hhi':hi < 18446744073709551616:=Nat.lt_trans hhi hy
  have hlo':lo < 18446744073709551616:=hlo
  have hy':y < 18446744073709551616:=hy
  obtain ⟨n1,n2,n3⟩:=norm_top (show y≠0 by omega) hy
  generalize hs:64 - bl y=s at n1 n2 n3
  obtain ⟨p1,p2,p3,p4⟩:=div64_parts n3 hlo hhi n1 n2
  have w0':IntKind.u64.wrap ((s:Nat):Int)=(s:Int):=wrapN (by omega)
  have w1:IntKind.u64.wrap (64 - (s:Int))=((64 - s:Nat):Int):=by rw [IntKind.wrap_u64];omega
  have sh1:=shlN y s s rfl (by omega)
  have sh2:=shlN hi s s rfl (by omega)
  have sh3:=shlN lo s s rfl (by omega)
  rw [Int.toNat_natCast,Nat.mod_eq_of_lt n2] at sh1
  rw [Int.toNat_natCast,Nat.mod_eq_of_lt p3] at sh2
  rw [Int.toNat_natCast] at sh3
  have sh4:=fdivN lo (64 - s) ((64 - s:Nat):Int) (by simp) (by omega)
  rw [Int.toNat_natCast] at sh4
  have or1:=or_add' p4 (Nat.dvd_mul_left (2 ^ s) hi) (Nat.lt_of_le_of_lt (Nat.div_le_self _ _) hlo') p3
  generalize hY:y*2 ^ s=Y at *
  generalize hT:hi*2 ^ s+lo / 2 ^ (64 - s)=T at *
  generalize hL:lo*2 ^ s%BB=l at *
  have hl:l < BB:=by rw [←hL];exact Nat.mod_lt _ (by decide)
  have hTB:T < BB:=Nat.lt_trans p1 n2
  have hk:∀a:Nat,(a:Int).fdiv (2 ^ min 32 IntKind.u64.bits)=((a / 4294967296:Nat):Int):=fun a=>fdivK a 32 (by decide)
  refine zen Tryz.func267 rfl Tryz.ntmps267 ?_
  intro w0 E0 hc
  repeat' (first|(with_reducible first|refine Wp_seq ?_|refine zwk ?_|refine Wp_block ?_|refine zgo ?_|refine zbn ?_|refine zge Tryz.results267 ?_|refine Sub.refl _|refine allP_nil|refine zoa0 (out':=?_) ?_|refine zca0 (y:=?_) ?_|refine zea0 (eo':=?_) ?_)|(with_reducible refine zrs [8] hc ?_ ?_;focus (with_unfolding_all rfl))|(with_reducible refine zrm [8] hc mixed ?_ ?_;focus (with_unfolding_all rfl))|(with_reducible refine allP_cons ?_ ?_;focus (first|decide|omega))|(with_reducible first|refine zg2 ?_ ?_|refine zoc (c0_LeadingZeros64 _ ?_) ?_ ?_|refine zbo ?_|refine zg3 ?_ (fun h=>?_) (fun h=>?_)|refine zg4 (fun h=>?_) (fun h=>?_)|fail)|((first|exact hy|omega|(simp only [and_true];omega));done))
  · have e0:hi=0:=by omega
    exact sub_eq (by rw [e0,Nat.zero_mul,Nat.zero_add,tdivN,tmodN,wrapN (Nat.lt_of_le_of_lt (Nat.div_le_self _ _) hlo')])
  refine Wp_weaker (st':=stOf [(0,U hi),(1,U lo),(2,U y),(8,U s)] [] 0) ?_ ?_
  · refine zW0 ?_ <;> repeat' (with_reducible first|exact trivial|refine zan ?_ ?_|refine zal (fun i hi=>?_))
    all_goals rw [hs,w0']
  repeat' (first|(with_reducible first|refine Wp_seq ?_|refine zwk ?_|refine Wp_block ?_|refine zgo ?_|refine zbn ?_|refine zge Tryz.results267 ?_|refine Sub.refl _|refine allP_nil|refine zoa0 (out':=?_) ?_|refine zca0 (y:=?_) ?_|refine zea0 (eo':=?_) ?_)|(with_reducible refine zrs [9] hc ?_ ?_;focus (with_unfolding_all rfl))|(with_reducible refine zrm [9] hc mixed ?_ ?_;focus (with_unfolding_all rfl))|(with_reducible refine allP_cons ?_ ?_;focus (first|decide|omega))|(with_reducible first|refine zg2 ?_ ?_|refine zbo ?_|refine zg3 ?_ (fun h=>?_) (fun h=>?_)|refine zg4 (fun h=>?_) (fun h=>?_)|fail)|((first|omega|(simp only [and_true];omega));done))
  refine Wp_weaker (st':=stOf [(0,U hi),(1,U lo),(2,U Y),(8,U s)] [] 0) ?_ ?_
  · refine zW0 ?_ <;> repeat' (with_reducible first|exact trivial|refine zan ?_ ?_|refine zal (fun i hi=>?_))
    all_goals exact sh1
  have hY0:0 < Y / 4294967296:=by omega
  repeat' (first|(with_reducible first|refine Wp_seq ?_|refine zwk ?_|refine zgo ?_|refine zbn ?_|refine zge Tryz.results267 ?_|refine Sub.refl _|refine allP_nil|refine zoa0 (out':=?_) ?_|refine zca0 (y:=?_) ?_|refine zea0 (eo':=?_) ?_)|(with_reducible refine zrs [15] hc ?_ ?_;focus (with_unfolding_all rfl))|(with_reducible refine zrm [15] hc mixed ?_ ?_;focus (with_unfolding_all rfl))|(with_reducible refine allP_cons ?_ ?_;focus (first|decide|omega))|(with_reducible first|refine zg2 ?_ ?_|refine zbo ?_|refine zg3 ?_ (fun h=>?_) (fun h=>?_)|refine zg4 (fun h=>?_) (fun h=>?_)|fail)|((first|omega|(simp only [w1,and_true];omega));done))
  refine Wp_weaker (st':=stOf [(2,U Y),(8,U s),(9,U (Y / 4294967296:Nat)),(10,U (Y%4294967296:Nat)),(11,U T),(13,U (l / 4294967296:Nat)),(14,U (l%4294967296:Nat))] [] 0) ?_ ?_
  · have and1:∀a:Nat,IntKind.u64.wrap ((BitVec.ofInt IntKind.u64.bits (a:Int) &&& BitVec.ofInt IntKind.u64.bits 4294967295).toNat:Int)=((a%4294967296:Nat):Int):=fun a=>by
      rw [and_low',IntKind.wrap_u64];omega
    refine zW0 ?_ <;> repeat' (with_reducible first|exact trivial|refine zan ?_ ?_|refine zal (fun i hi=>?_))
    · rw [hk]
    · rw [and1]
    · rw [sh2,w1,Int.toNat_natCast,sh4,or1]
    · rw [sh3,hk]
    · rw [sh3,and1]
  clear sh1 sh2 sh3 sh4 or1
  have u1:l / 4294967296 < 4294967296:=half_lt hl
  have u0:l%4294967296 < 4294967296:=Nat.mod_lt _ (by decide)
  have v1:Y / 4294967296 < 4294967296:=half_lt n2
  have v0:Y%4294967296 < 4294967296:=Nat.mod_lt _ (by decide)
  have ve:=half_eq Y
  have vt:4294967296≤2*(Y / 4294967296):=by omega
  have T1:T < Y / 4294967296*4294967296+Y%4294967296:=by rw [ve];exact p1
  generalize hy1:Y / 4294967296=y1 at *
  generalize hy0:Y%4294967296=y0 at *
  generalize hl1:l / 4294967296=l1 at *
  generalize hl0:l%4294967296=l0 at *
  repeat' (first|(with_reducible first|refine Wp_seq ?_|refine zr0 hc ?_|refine zm0 hc ?_|refine zwk ?_|refine zgo ?_|refine zbn ?_|refine zge Tryz.results267 ?_|refine Sub.refl _|refine allP_nil|refine zoa0 (out':=?_) ?_|refine zca0 (y:=?_) ?_|refine zea0 (eo':=?_) ?_)|(with_reducible refine allP_cons ?_ ?_;focus (first|decide|omega))|(with_reducible first|refine zg2 ?_ ?_|refine zbo ?_|refine zg3 ?_ (fun h=>?_) (fun h=>?_)|refine zg4 (fun h=>?_) (fun h=>?_)|fail)|((first|omega|(simp only [and_true];omega));done))
  refine Wp_join (α:=Nat) (fun q=>stOf [(2,U Y),(8,U s),(9,U y1),(10,U y0),(11,U T),(13,U l1),(14,U l0),(15,U q)] [] 0) (fun q=>q=(T*4294967296+l1) / (y1*4294967296+y0)) ?_ ?_
  · repeat' (first|refine zR0 hc Tryz.results267 ?_|(with_reducible first|exact trivial|refine zan ?_ ?_|refine zim (fun h=>?_)|fail)|((first|omega|(simp only [and_true];omega));done))
    refine Wp_loopI (α:=Nat×Nat) (fun p=>stOf [(2,U Y),(8,U s),(9,U y1),(10,U y0),(11,U T),(13,U l1),(14,U l0),(15,U p.1),(16,U p.2)] [] 0) (fun p=>KD 4294967296 y1 y0 T l1 p.1 p.2) (fun p=>p.1) (T / y1,T%y1) (KD.start vt v1 v0 u1 T1) ?_ ?_
    · refine zW0 ?_ <;> repeat' (with_reducible first|exact trivial|refine zan ?_ ?_|refine zal (fun i hi=>?_))
      · exact (kd_rhat (Nat.lt_trans T1 (by rw [ve];exact n2))).1
      · exact (kd_rhat (Nat.lt_trans T1 (by rw [ve];exact n2))).2
    · rintro ⟨q,r⟩ hK
      dsimp only at hK
      obtain ⟨b1,b2,b3,b4⟩:=kd_wraps hK v0 u1 v1
      repeat' (first|refine zR0 hc Tryz.results267 ?_|(with_reducible first|exact trivial|refine zan ?_ ?_|refine zim (fun h=>?_)|fail)|((first|omega|(simp only [and_true];omega));done))
      · rename_i g1 g2
        rw [b1,b2] at g2
        rw [b3] at h
        have hc':4294967296≤q∨4294967296*r+l1 < q*y0:=.inr (by omega)
        refine ⟨_,(hK.stop T1 u1 v0 hc' (by omega)).1,?_⟩
        refine zW0 ?_ <;> repeat' (with_reducible first|exact trivial|refine zan ?_ ?_|refine zal (fun i hi=>?_))
        all_goals exact b4 (hK.more T1 u1 hc').1
      · rename_i g1 g2
        rw [b1,b2] at g2
        rw [b3] at h
        have hc':4294967296≤q∨4294967296*r+l1 < q*y0:=.inr (by omega)
        have hq1:=(hK.more T1 u1 hc').1
        refine ⟨(_,_),hK.next T1 u1 hc' (by omega),by dsimp only;omega,?_⟩
        refine zW0 ?_ <;> repeat' (with_reducible first|exact trivial|refine zan ?_ ?_|refine zal (fun i hi=>?_))
        all_goals exact b4 hq1
      · rename_i g1
        rw [b1,b2] at h
        refine ⟨_,hK.done (by omega),?_⟩
        refine zW0 ?_ <;> repeat' (with_reducible first|exact trivial|refine zan ?_ ?_|refine zal (fun i hi=>?_))
      · rename_i g1
        rw [b3] at h
        have hc':4294967296≤q∨4294967296*r+l1 < q*y0:=.inl (by omega)
        refine ⟨_,(hK.stop T1 u1 v0 hc' (by omega)).1,?_⟩
        refine zW0 ?_ <;> repeat' (with_reducible first|exact trivial|refine zan ?_ ?_|refine zal (fun i hi=>?_))
        all_goals exact b4 (hK.more T1 u1 hc').1
      · rename_i g1
        rw [b3] at h
        have hc':4294967296≤q∨4294967296*r+l1 < q*y0:=.inl (by omega)
        have hq1:=(hK.more T1 u1 hc').1
        refine ⟨(_,_),hK.next T1 u1 hc' (by omega),by dsimp only;omega,?_⟩
        refine zW0 ?_ <;> repeat' (with_reducible first|exact trivial|refine zan ?_ ?_|refine zal (fun i hi=>?_))
        all_goals exact b4 hq1
  rintro q1 hq1
  rw [ve] at hq1
  have hYp:0 < Y:=by omega
  have T2:(T*4294967296+l1)%Y < y1*4294967296+y0:=Nat.lt_of_lt_of_le (Nat.mod_lt _ hYp) (Nat.le_of_eq ve.symm)
  obtain ⟨T',hT2⟩:∃T',(T*4294967296+l1)%Y=T':=⟨_,rfl⟩
  rw [hT2] at T2
  have ed:=Nat.div_add_mod (T*4294967296+l1) Y
  rw [←hq1,hT2] at ed
  have hT':T' < 18446744073709551616:=Nat.lt_trans T2 (by rw [ve];exact n2)
  repeat' (first|(with_reducible first|refine Wp_seq ?_|refine zwk ?_|refine Wp_block ?_|refine zgo ?_|refine zbn ?_|refine zge Tryz.results267 ?_|refine Sub.refl _|refine allP_nil|refine zoa0 (out':=?_) ?_|refine zca0 (y:=?_) ?_|refine zea0 (eo':=?_) ?_)|(with_reducible refine zrs [22] hc ?_ ?_;focus (with_unfolding_all rfl))|(with_reducible refine zrm [22] hc mixed ?_ ?_;focus (with_unfolding_all rfl))|(with_reducible refine allP_cons ?_ ?_;focus (first|decide|omega))|(with_reducible first|refine zg2 ?_ ?_|refine zbo ?_|refine zg3 ?_ (fun h=>?_) (fun h=>?_)|refine zg4 (fun h=>?_) (fun h=>?_)|fail)|((first|omega|(simp only [and_true];omega));done))
  refine Wp_weaker (st':=stOf [(2,U Y),(8,U s),(9,U y1),(10,U y0),(14,U l0),(15,U q1),(17,U T')] [] 0) ?_ ?_
  · refine zW0 ?_ <;> repeat' (with_reducible first|exact trivial|refine zan ?_ ?_|refine zal (fun i hi=>?_))
    rw [show (T:Int)*4294967296=((T*4294967296:Nat):Int) by omega,←Int.natCast_mul]
    exact wsub (by rw [←ed,Nat.mul_comm]) hT'
  repeat' (first|(with_reducible first|refine Wp_seq ?_|refine zr0 hc ?_|refine zm0 hc ?_|refine zwk ?_|refine zgo ?_|refine zbn ?_|refine zge Tryz.results267 ?_|refine Sub.refl _|refine allP_nil|refine zoa0 (out':=?_) ?_|refine zca0 (y:=?_) ?_|refine zea0 (eo':=?_) ?_)|(with_reducible refine allP_cons ?_ ?_;focus (first|decide|omega))|(with_reducible first|refine zg2 ?_ ?_|refine zbo ?_|refine zg3 ?_ (fun h=>?_) (fun h=>?_)|refine zg4 (fun h=>?_) (fun h=>?_)|fail)|((first|omega|(simp only [and_true];omega));done))
  refine Wp_join (α:=Nat) (fun q=>stOf [(2,U Y),(8,U s),(9,U y1),(10,U y0),(14,U l0),(15,U q1),(17,U T'),(18,U q)] [] 0) (fun q=>q=(T'*4294967296+l0) / (y1*4294967296+y0)) ?_ ?_
  · repeat' (first|refine zR0 hc Tryz.results267 ?_|(with_reducible first|exact trivial|refine zan ?_ ?_|refine zim (fun h=>?_)|fail)|((first|omega|(simp only [and_true];omega));done))
    refine Wp_loopI (α:=Nat×Nat) (fun p=>stOf [(2,U Y),(8,U s),(9,U y1),(10,U y0),(14,U l0),(15,U q1),(17,U T'),(18,U p.1),(16,U p.2)] [] 0) (fun p=>KD 4294967296 y1 y0 T' l0 p.1 p.2) (fun p=>p.1) (T' / y1,T'%y1) (KD.start vt v1 v0 u0 T2) ?_ ?_
    · refine zW0 ?_ <;> repeat' (with_reducible first|exact trivial|refine zan ?_ ?_|refine zal (fun i hi=>?_))
      · exact (kd_rhat (Nat.lt_trans T2 (by rw [ve];exact n2))).1
      · exact (kd_rhat (Nat.lt_trans T2 (by rw [ve];exact n2))).2
    · rintro ⟨q,r⟩ hK
      dsimp only at hK
      obtain ⟨b1,b2,b3,b4⟩:=kd_wraps hK v0 u0 v1
      repeat' (first|refine zR0 hc Tryz.results267 ?_|(with_reducible first|exact trivial|refine zan ?_ ?_|refine zim (fun h=>?_)|fail)|((first|omega|(simp only [and_true];omega));done))
      · rename_i g1 g2
        rw [b1,b2] at g2
        rw [b3] at h
        have hc':4294967296≤q∨4294967296*r+l0 < q*y0:=.inr (by omega)
        refine ⟨_,(hK.stop T2 u0 v0 hc' (by omega)).1,?_⟩
        refine zW0 ?_ <;> repeat' (with_reducible first|exact trivial|refine zan ?_ ?_|refine zal (fun i hi=>?_))
        all_goals exact b4 (hK.more T2 u0 hc').1
      · rename_i g1 g2
        rw [b1,b2] at g2
        rw [b3] at h
        have hc':4294967296≤q∨4294967296*r+l0 < q*y0:=.inr (by omega)
        have hq1:=(hK.more T2 u0 hc').1
        refine ⟨(_,_),hK.next T2 u0 hc' (by omega),by dsimp only;omega,?_⟩
        refine zW0 ?_ <;> repeat' (with_reducible first|exact trivial|refine zan ?_ ?_|refine zal (fun i hi=>?_))
        all_goals exact b4 hq1
      · rename_i g1
        rw [b1,b2] at h
        refine ⟨_,hK.done (by omega),?_⟩
        refine zW0 ?_ <;> repeat' (with_reducible first|exact trivial|refine zan ?_ ?_|refine zal (fun i hi=>?_))
      · rename_i g1
        rw [b3] at h
        have hc':4294967296≤q∨4294967296*r+l0 < q*y0:=.inl (by omega)
        refine ⟨_,(hK.stop T2 u0 v0 hc' (by omega)).1,?_⟩
        refine zW0 ?_ <;> repeat' (with_reducible first|exact trivial|refine zan ?_ ?_|refine zal (fun i hi=>?_))
        all_goals exact b4 (hK.more T2 u0 hc').1
      · rename_i g1
        rw [b3] at h
        have hc':4294967296≤q∨4294967296*r+l0 < q*y0:=.inl (by omega)
        have hq1:=(hK.more T2 u0 hc').1
        refine ⟨(_,_),hK.next T2 u0 hc' (by omega),by dsimp only;omega,?_⟩
        refine zW0 ?_ <;> repeat' (with_reducible first|exact trivial|refine zan ?_ ?_|refine zal (fun i hi=>?_))
        all_goals exact b4 hq1
  rintro q0 hq0
  rw [ve] at hq0
  have ed0:=Nat.div_add_mod (T'*4294967296+l0) Y
  have hr0:(T'*4294967296+l0)%Y < Y:=Nat.mod_lt _ (by omega)
  repeat' (first|refine zR0 hc Tryz.results267 ?_|(with_reducible first|exact trivial|refine zan ?_ ?_|refine zim (fun h=>?_)|fail)|((first|omega|(simp only [and_true];omega));done))
  have d1:=div64_done (T:=T) (R:=4294967296) (u1:=l1) (u0:=l0) (y:=Y) (by omega)
  rw [hT2,←hq1,←hq0] at d1
  have el:T*4294967296*4294967296+l1*4294967296+l0=(hi*BB+lo)*2 ^ s:=by
    have:=half_eq l
    rw [hl1,hl0] at this
    have hBB:(4294967296*4294967296:Nat)=BB:=rfl
    rw [←p2,←this,Nat.mul_assoc T,hBB,Nat.add_assoc]
  rw [el,←hY,Nat.mul_div_mul_right _ _ (Nat.two_pow_pos s),Nat.mul_mod_mul_right] at d1
  rw [hY] at d1
  have hq:q1*4294967296+q0 < 18446744073709551616:=by
    rw [d1.1,Nat.div_lt_iff_lt_mul (by omega)]
    have:(hi+1)*BB≤y*BB:=Nat.mul_le_mul_right _ hhi
    rw [Nat.add_mul] at this
    show _ < BB*y
    rw [Nat.mul_comm BB]
    omega
  have e4:T'*4294967296+l0=q0*Y+(T'*4294967296+l0)%Y:=by rw [hq0,Nat.mul_comm _ Y];exact ed0.symm
  refine sub_eq ?_
  rw [←d1.1]
  rw [show (T':Int)*4294967296=((T'*4294967296:Nat):Int) by omega,←Int.natCast_mul,wsub (r:=(hi*BB+lo)%y*2 ^ s) (by rw [←d1.2];exact e4) (by rw [←d1.2];exact Nat.lt_trans hr0 n2)]
  have e2:=fdivN ((hi*BB+lo)%y*2 ^ s) s (s:Int) (by simp) (by omega)
  rw [Int.toNat_natCast] at e2
  rw [e2,Nat.mul_div_cancel _ (Nat.two_pow_pos s)]
  have e3:IntKind.u64.wrap (IntKind.u64.wrap ((q1:Int)*4294967296)+q0)=((q1*4294967296+q0:Nat):Int):=by
    rw [IntKind.wrap_u64,IntKind.wrap_u64];omega
  rw [e3]
theorem c0_Div64i (hi lo y:Int) (h:0≤hi∧hi < y∧0≤lo∧lo < 18446744073709551616∧y < 18446744073709551616):Ax.Pure Tryz.prog G0 267 [U hi,U lo,U y] (.tup [U ((hi*18446744073709551616+lo) / y),U ((hi*18446744073709551616+lo)%y)]):=by
  obtain ⟨h1,h2,h3,h4,h5⟩:=h
  obtain ⟨hi,rfl⟩:=Int.eq_ofNat_of_zero_le h1
  obtain ⟨lo,rfl⟩:=Int.eq_ofNat_of_zero_le h3
  obtain ⟨y,rfl⟩:=Int.eq_ofNat_of_zero_le (show 0≤y by omega)
  have:=c0_Div64 hi lo y (by omega) (show lo < 18446744073709551616 by omega) (show y < 18446744073709551616 by omega)
  have e1:(((hi*BB+lo) / y:Nat):Int)=((hi:Int)*18446744073709551616+lo) / y:=by rw [Int.natCast_ediv,Int.natCast_add,Int.natCast_mul];rfl
  have e2:(((hi*BB+lo)%y:Nat):Int)=((hi:Int)*18446744073709551616+lo)%y:=by rw [Int.natCast_emod,Int.natCast_add,Int.natCast_mul];rfl
  rw [e1,e2] at this
  exact this
theorem c_Div64i (hi lo y:Int) (h:0≤hi∧hi < y∧0≤lo∧lo < 18446744073709551616∧y < 18446744073709551616):Ax.Pure Tryz.prog G 267 [U hi,U lo,U y] (.tup [U ((hi*18446744073709551616+lo) / y),U ((hi*18446744073709551616+lo)%y)]):=pure_any (c0_Div64i hi lo y h)
end Go.Proofs
end
