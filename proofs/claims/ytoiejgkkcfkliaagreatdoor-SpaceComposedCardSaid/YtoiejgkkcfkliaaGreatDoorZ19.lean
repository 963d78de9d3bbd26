/- Lemmas on the program and its library: part Z19. -/
import Derived.Test.YtoiejgkkcfkliaaGreatDoorZ18
set_option linter.unusedVariables false
set_option linter.unusedSimpArgs false
section
set_option maxHeartbeats 4000000
set_option maxRecDepth 100000
namespace Go.Proofs
open Go.Ax
theorem a9z (x y:List Nat) (hx:∀d∈x,d < BB) (hy:∀d∈y,d < BB) (lx:x.length≤1000000000000) (ly:y.length≤1000000000000):Ax.Pure Tryz.prog G 251 [L (y7 x),L (y7 y)] (L (y7 (f7 BB (val BB x*val BB y)))):=by
  have lx':=m5 x
  have ly':=m5 y
  have w1:(IntKind.i64.wrap (↑(y7 x).length+↑(y7 y).length)).toNat=x.length+y.length:=by rw [IntKind.wrap_i64];omega
  refine r8 Tryz.func251 rfl Tryz.ntmps251 ?_
  intro w0 E0 hc
  repeat' (first|refine zR0 hc Tryz.results251 ?_|(with_reducible first|exact trivial|refine j3 ?_ ?_|refine m8 (fun h=>?_)|fail)|(first|omega|(simp only [IntKind.wrap_i64,IntKind.wrap_u64,Bool.and_self,true_and,and_true];omega);done))
  refine m9 (α:=Nat×List Nat) (fun p=>n5 [(0,L (y7 x)),(1,L (y7 y)),(5,.one (.own 0 1 0 (x.length+y.length) (x.length+y.length))),(20,L (y7 x)),(21,N x.length),(22,N p.1)] [(0,⟨1,x.length+y.length,fun i=> [.v (.int .u64 (p.2.getD i 0:Nat))],false⟩)] 1)
    (fun p=>a2x BB x y p.2 p.1) (fun p=>x.length - p.1) (0,List.replicate (x.length+y.length) 0) (a2x.zero' (by decide) _ _) ?_ ?_
  · refine zW0 ?_ <;> repeat' (with_reducible first|exact trivial|refine j3 ?_ ?_|refine t7 (fun i hi=>?_))
    rw [List.getD_eq_getElem?_getD,List.getElem?_replicate]
    split <;> rfl
  · rintro ⟨i,o⟩ hR
    dsimp only at hR
    have gx:=r7 x i
    have hi:=hR.hi
    have hlen:=hR.len
    repeat' (first|(with_reducible first|refine j0 ?_|refine zwk ?_|refine i6 ?_|refine zgo ?_|refine zbn ?_|refine zge Tryz.results251 ?_|refine Sub.refl _|refine f9|refine a42 (out':=?_) ?_|refine a40 (y:=?_) ?_|refine a41 (eo':=?_) ?_)|(with_reducible refine zrs [18] hc ?_ ?_;focus (with_unfolding_all rfl))|(with_reducible refine zrm [18] hc mixed ?_ ?_;focus (with_unfolding_all rfl))|(with_reducible refine f6 ?_ ?_;focus (first|decide|omega))|(with_reducible first|refine zg2 ?_ ?_|refine zbo ?_|refine zg3 ?_ (fun h=>?_) (fun h=>?_)|refine zg4 (fun h=>?_) (fun h=>?_)|fail)|(first|omega|(simp only [IntKind.wrap_i64,IntKind.wrap_u64,Bool.and_self,true_and,and_true];omega);done))
    · refine m9 (α:=Nat×List Nat×Nat) (fun p=>n5 [(0,L (y7 x)),(1,L (y7 y)),(5,.one (.own 0 1 0 (x.length+y.length) (x.length+y.length))),(6,N i),(7,U (x.getD i 0:Nat)),(8,U p.2.2),(20,L (y7 x)),(21,N x.length),(22,N i),(27,L (y7 y)),(28,N y.length),(29,N p.1)] [(0,⟨1,x.length+y.length,fun i=> [.v (.int .u64 (p.2.1.getD i 0:Nat))],false⟩)] 1)
        (fun p=>p.2.1.length=x.length+y.length∧b80 BB (val BB (x.take i)*val BB y) i (x.getD i 0) y p.2.1 p.1 p.2.2) (fun p=>y.length - p.1) (0,o,0) ⟨hR.len,hR.start (by omega) (by decide)⟩ ?_ ?_
      · refine zW0 ?_ <;> repeat' (with_reducible first|exact trivial|refine j3 ?_ ?_|refine t7 (fun i hi=>?_))
        rfl
      · rintro ⟨j,o,c⟩ ⟨ho,hM⟩
        dsimp only at ho hM
        have hj:=hM.hj
        have gy:=r7 y j
        have wij:IntKind.i64.wrap (↑i+↑j)=((i+j:Nat):Int):=by rw [IntKind.wrap_i64];omega
        have wil:IntKind.i64.wrap (↑i+↑(y7 y).length)=((i+y.length:Nat):Int):=by rw [IntKind.wrap_i64];omega
        have bx:x.getD i 0 < BB:=r5 (by decide) hx i
        have by':y.getD j 0 < BB:=r5 (by decide) hy j
        have ba:o.getD (i+j) 0 < BB:=r5 (by decide) hM.lt (i+j)
        have hcc:=hM.hc
        repeat' (first|(with_reducible first|refine j0 ?_|refine zwk ?_|refine i6 ?_|refine zgo ?_|refine zbn ?_|refine zge Tryz.results251 ?_|refine Sub.refl _|refine f9|refine a42 (out':=?_) ?_|refine a40 (y:=?_) ?_|refine a41 (eo':=?_) ?_)|(with_reducible refine zrs [18] hc ?_ ?_;focus (with_unfolding_all rfl))|(with_reducible refine zrm [18] hc mixed ?_ ?_;focus (with_unfolding_all rfl))|(with_reducible refine f6 ?_ ?_;focus (first|decide|omega))|(with_reducible first|refine zg2 ?_ ?_|refine c9 (b4o _ _ ?_) ?_ ?_|refine c7s (b13 _ _ _ ?_) ?_ ?_|refine zbo ?_|refine zg3 ?_ (fun h=>?_) (fun h=>?_)|refine zg4 (fun h=>?_) (fun h=>?_)|fail)|((first|omega|(simp only [wij,wil,Int.toNat_natCast,Bool.and_self,true_and,and_true];omega));done))
        · rw [gy];simp only [BB] at bx by';omega
        · have ⟨m1,m2⟩:=d0t (B:=BB) (hi:=x.getD i 0*y.getD j 0 / BB) (lo:=x.getD i 0*y.getD j 0%BB) bx by' ba hcc (Nat.div_add_mod _ _).symm (Nat.div_add_mod _ _).symm (Nat.div_add_mod _ _).symm (Nat.mod_lt _ (by decide))
          refine ⟨(j+1,_,_),⟨?_,hM.step (by omega) (Nat.mod_lt _ (by decide)) m1 m2⟩,?_,?_⟩
          · simp only [List.length_set];exact ho
          · dsimp only;omega
          · have m3:((x.getD i 0*y.getD j 0 / BB+(x.getD i 0*y.getD j 0%BB+o.getD (i+j) 0) / BB+((x.getD i 0*y.getD j 0%BB+o.getD (i+j) 0)%BB+c) / BB:Nat):Int)=IntKind.u64.wrap (IntKind.u64.wrap (↑(x.getD i 0)*↑(y.getD j 0) / 18446744073709551616+(↑(x.getD i 0)*↑(y.getD j 0)%18446744073709551616+↑(o.getD (i+j) 0)) / 18446744073709551616)+((↑(x.getD i 0)*↑(y.getD j 0)%18446744073709551616+↑(o.getD (i+j) 0))%18446744073709551616+↑c) / 18446744073709551616):=by
              rw [←Int.natCast_mul,IntKind.wrap_u64,IntKind.wrap_u64]
              clear m2
              generalize x.getD i 0*y.getD j 0=P at *
              generalize o.getD (i+j) 0=a at *
              simp only [BB] at *
              omega
            have m4:((((x.getD i 0*y.getD j 0%BB+o.getD (i+j) 0)%BB+c)%BB:Nat):Int)=((↑(x.getD i 0)*↑(y.getD j 0)%18446744073709551616+↑(o.getD (i+j) 0))%18446744073709551616+↑c)%18446744073709551616:=by
              rw [←Int.natCast_mul]
              generalize x.getD i 0*y.getD j 0=P at *
              generalize o.getD (i+j) 0=a at *
              simp only [BB]
              omega
            refine zW0 ?_ <;> repeat' (with_reducible first|exact trivial|refine j3 ?_ ?_|refine t7 (fun i hi=>?_))
            · rw [m3];simp only [wij,gy,Int.toNat_natCast,Nat.zero_add,Int.add_zero]
            · exact a06 _ (by rw [wij,Nat.zero_add,Int.toNat_natCast]) (by rw [m4];simp only [wij,gy,Int.toNat_natCast,Nat.zero_add,Int.add_zero]) (by omega)
        · refine ⟨(i+1,_),a2x.next (by omega) ho ((show j=y.length by omega) ▸ hM),?_,?_⟩
          · dsimp only;omega
          · refine zW0 ?_ <;> repeat' (with_reducible first|exact trivial|refine j3 ?_ ?_|refine t7 (fun i hi=>?_))
            exact a06 _ (by rw [wil,Nat.zero_add,Int.toNat_natCast]) rfl (by omega)
    · refine a9w hc 0 5 (x.length+y.length) .u64 (y7 o) [] [] 1 [] [] ?_ (Nat.le_refl _) (by simp [hlen]) rfl rfl (fun _ h=>by cases h) ?_
      · refine zW0 ?_ <;> repeat' (with_reducible first|exact trivial|refine j3 ?_ ?_|refine t7 (fun i hi=>?_))
        rw [r7]
      · repeat' (first|refine zR0 hc Tryz.results251 ?_|(with_reducible first|exact trivial|refine j3 ?_ ?_|refine m8 (fun h=>?_)|refine c9 (b08 _ ?_) ?_ ?_|fail)|(first|omega|(simp only [IntKind.wrap_i64,IntKind.wrap_u64,Bool.and_self,true_and,and_true];omega);done))
        obtain rfl:i=x.length:=by omega
        exact j6 (by rw [a0r (by decide) hR.lt,hR.done])
end Go.Proofs
end
section
set_option maxHeartbeats 4000000
set_option maxRecDepth 100000
namespace Go.Proofs
open Go.Ax
theorem d8w {a:Array UInt8} (hs:∀i:Fin 256,(a.getD i.1 0).toNat=bl i.1) {x:Nat} (hx:x < 256):(a.getD x 0).toNat=bl x:=hs ⟨x,hx⟩
theorem b89 (x:Nat) (hx:x < BB):Ax.Pure Tryz.prog G0 287 [U x] (N (bl x)):=by
  have hx':x < 18446744073709551616:=hx
  refine r8 Tryz.func287 rfl Tryz.ntmps287 ?_
  intro w0 E0 hc
  repeat' (first|(with_reducible first|refine j0 (x:=.region _ _ _) ?_|refine j0 (x:=.seq _ _) ?_|refine j0 (x:=.block _ _) ?_|refine j0 (x:=.loop _) ?_|refine j0 (x:=.skip) ?_|refine zr0 hc ?_|refine zm0 hc ?_|refine i6 ?_|refine zgo ?_|refine zbn ?_|refine zge Tryz.results287 ?_|refine Sub.refl _|refine f9|refine a42 (out':=?_) ?_|refine a40 (y:=?_) ?_|refine a41 (eo':=?_) ?_)|(with_reducible refine f6 ?_ ?_;focus (first|decide|omega))|(with_reducible first|refine zg2 ?_ ?_|refine zbo ?_|refine zg3 ?_ (fun h=>?_) (fun h=>?_)|refine zg4 (fun h=>?_) (fun h=>?_)|fail)|(omega;done))
  refine a4j (α:=Nat×Nat) (fun p=>n5 [(0,U p.1),(2,N p.2)] [] 0) (fun p=>p.1 < 4294967296∧p.2≤32∧p.2+bl p.1=bl x) ?_ ?_
  · repeat' (first|refine zR0 hc Tryz.results287 ?_|(with_reducible first|exact trivial|refine j3 ?_ ?_|refine m8 (fun h=>?_)|fail)|(omega;done))
    · refine ⟨(x / 2 ^ 32,32),⟨by dsimp only;omega,by omega,b87 (k:=32) (by omega)⟩,?_⟩
      refine zW0 ?_ <;> repeat' (with_reducible first|exact trivial|refine j3 ?_ ?_|refine t7 (fun i hi=>?_))
      rw [d0c _ 32 (by decide)]
    · refine ⟨(x,0),⟨by dsimp only;omega,by omega,by dsimp only;omega⟩,?_⟩
      refine zW0 ?_ <;> repeat' (with_reducible first|exact trivial|refine j3 ?_ ?_|refine t7 (fun i hi=>?_))
  rintro ⟨x1,n1⟩ ⟨h1,h2,h3⟩
  dsimp only at h1 h2 h3
  repeat' (first|(with_reducible first|refine j0 (x:=.region _ _ _) ?_|refine j0 (x:=.seq _ _) ?_|refine j0 (x:=.block _ _) ?_|refine j0 (x:=.loop _) ?_|refine j0 (x:=.skip) ?_|refine zr0 hc ?_|refine zm0 hc ?_|refine i6 ?_|refine zgo ?_|refine zbn ?_|refine zge Tryz.results287 ?_|refine Sub.refl _|refine f9|refine a42 (out':=?_) ?_|refine a40 (y:=?_) ?_|refine a41 (eo':=?_) ?_)|(with_reducible refine f6 ?_ ?_;focus (first|decide|omega))|(with_reducible first|refine zg2 ?_ ?_|refine zbo ?_|refine zg3 ?_ (fun h=>?_) (fun h=>?_)|refine zg4 (fun h=>?_) (fun h=>?_)|fail)|(omega;done))
  refine a4j (α:=Nat×Nat) (fun p=>n5 [(0,U p.1),(2,N p.2)] [] 0) (fun p=>p.1 < 65536∧p.2≤48∧p.2+bl p.1=bl x) ?_ ?_
  · repeat' (first|refine zR0 hc Tryz.results287 ?_|(with_reducible first|exact trivial|refine j3 ?_ ?_|refine m8 (fun h=>?_)|fail)|(omega;done))
    · refine ⟨(x1 / 2 ^ 16,n1+16),⟨by dsimp only;omega,by dsimp only;omega,by dsimp only;rw [Nat.add_assoc,b87 (by omega),h3]⟩,?_⟩
      refine zW0 ?_ <;> repeat' (with_reducible first|exact trivial|refine j3 ?_ ?_|refine t7 (fun i hi=>?_))
      rw [d0c _ 16 (by decide)]
    · refine ⟨(x1,n1),⟨by dsimp only;omega,by dsimp only;omega,h3⟩,?_⟩
      refine zW0 ?_ <;> repeat' (with_reducible first|exact trivial|refine j3 ?_ ?_|refine t7 (fun i hi=>?_))
  clear h1 h2 h3 x1 n1
  rintro ⟨x1,n1⟩ ⟨h1,h2,h3⟩
  dsimp only at h1 h2 h3
  repeat' (first|(with_reducible first|refine j0 (x:=.region _ _ _) ?_|refine j0 (x:=.seq _ _) ?_|refine j0 (x:=.block _ _) ?_|refine j0 (x:=.loop _) ?_|refine j0 (x:=.skip) ?_|refine zr0 hc ?_|refine zm0 hc ?_|refine i6 ?_|refine zgo ?_|refine zbn ?_|refine zge Tryz.results287 ?_|refine Sub.refl _|refine f9|refine a42 (out':=?_) ?_|refine a40 (y:=?_) ?_|refine a41 (eo':=?_) ?_)|(with_reducible refine f6 ?_ ?_;focus (first|decide|omega))|(with_reducible first|refine zg2 ?_ ?_|refine zbo ?_|refine zg3 ?_ (fun h=>?_) (fun h=>?_)|refine zg4 (fun h=>?_) (fun h=>?_)|fail)|(omega;done))
  refine a4j (α:=Nat×Nat) (fun p=>n5 [(0,U p.1),(2,N p.2)] [] 0) (fun p=>p.1 < 256∧p.2≤56∧p.2+bl p.1=bl x) ?_ ?_
  · repeat' (first|refine zR0 hc Tryz.results287 ?_|(with_reducible first|exact trivial|refine j3 ?_ ?_|refine m8 (fun h=>?_)|fail)|(omega;done))
    · refine ⟨(x1 / 2 ^ 8,n1+8),⟨by dsimp only;omega,by dsimp only;omega,by dsimp only;rw [Nat.add_assoc,b87 (by omega),h3]⟩,?_⟩
      refine zW0 ?_ <;> repeat' (with_reducible first|exact trivial|refine j3 ?_ ?_|refine t7 (fun i hi=>?_))
      rw [d0c _ 8 (by decide)]
    · refine ⟨(x1,n1),⟨by dsimp only;omega,by dsimp only;omega,h3⟩,?_⟩
      refine zW0 ?_ <;> repeat' (with_reducible first|exact trivial|refine j3 ?_ ?_|refine t7 (fun i hi=>?_))
  clear h1 h2 h3 x1 n1
  rintro ⟨x1,n1⟩ ⟨h1,h2,h3⟩
  dsimp only at h1 h2 h3
  repeat' (first|refine zR0 hc Tryz.results287 ?_|(with_reducible first|exact trivial|refine j3 ?_ ?_|refine m8 (fun h=>?_)|fail)|(omega;done))
  · rw [show IntKind.u8.wrap (x1:Int)=x1 by rw [IntKind.wrap_u8];omega]
    exact ⟨by omega,by show _ < ((256:Nat):Int);omega⟩
  · rw [show IntKind.u8.wrap (x1:Int)=x1 by rw [IntKind.wrap_u8];omega,Int.toNat_natCast,d8w ?hs h1]
    · have:=a9d (n:=8) h1
      refine j6 ?_
      have e1:=d7p (a:=((bl x1:Nat):Int)) (by omega) (by omega)
      rw [e1,d7p (by omega) (by omega),←h3]
      rfl
    case hs=>decide +kernel
theorem a7l (x:Nat) (hx:x < BB):Ax.Pure Tryz.prog G0 269 [U x] (N (64 - bl x:Nat)):=by
  have:=a9d (n:=64) hx
  refine r8 Tryz.func269 rfl Tryz.ntmps269 ?_
  intro w0 E0 hc
  repeat' (first|refine zR0 hc Tryz.results269 ?_|(with_reducible first|exact trivial|refine j3 ?_ ?_|refine m8 (fun h=>?_)|refine c9 (b89 _ ?_) ?_ ?_|fail)|((first|exact hx|omega);done))
  all_goals exact j6 (by rw [d7p (by omega) (by omega)];congr 4;omega)
theorem b6j (x:Nat) (hx:x < BB):Ax.Pure Tryz.prog G 269 [U x] (N (64 - bl x:Nat)):=b1i (a7l x hx)
theorem b4n (x:Int) (h:0≤x∧x < 18446744073709551616):Ax.Pure Tryz.prog G 269 [U x] (N (64 - bl x.toNat:Nat)):=by
  obtain ⟨x,rfl⟩:=Int.eq_ofNat_of_zero_le h.1
  exact b6j x (show x < 18446744073709551616 by omega)
theorem c1x (w:List Nat) (s:Nat) (hw:∀d∈w,d < BB) (hs:s < 64) (lw:w.length≤1000000000000):b6e Tryz.prog G 270 [L (y7 w),N s] 1 (w.length+1) (w.length+1) (w.length+1) (fun i=> [.v (.int .u64 ((a2p BB (w.length+1) (val BB w*2 ^ s)).getD i 0:Nat))]):=by
  have lw':=m5 w
  have w1:(IntKind.i64.wrap (↑(y7 w).length+1)).toNat=w.length+1:=by rw [IntKind.wrap_i64];omega
  refine b7x a1u Tryz.func270 rfl (by kernel_rfl) b1z (by simp [clV,AV.cl,clL,i7.cl]) (by rw [Tryz.ntmps270];exact of_decide_eq_true rfl) (t:=4) (fun _ _=>⟨trivial,trivial⟩) Tryz.results270 ?_
  intro w0 E0 hc
  repeat' (first|refine zR0 hc Tryz.results270 ?_|(with_reducible first|exact trivial|refine j3 ?_ ?_|refine m8 (fun h=>?_)|fail)|(first|omega|(simp only [IntKind.wrap_i64,IntKind.wrap_u64,Bool.and_self,true_and,and_true];omega);done))
  refine m9 (α:=Nat×List Nat) (fun p=>n5 [(1,N s),(5,.one (.own 0 1 0 (w.length+1) (w.length+1))),(12,L (y7 w)),(13,N w.length),(14,N p.1)] [(0,⟨1,w.length+1,fun i=> [.v (.int .u64 (p.2.getD i 0:Nat))],false⟩)] 1)
    (fun p=>c7u s w p.2 p.1) (fun p=>w.length - p.1) (0,List.replicate (w.length+1) 0) (c7u.nil _ _) ?_ ?_
  · refine zW0 ?_ <;> repeat' (with_reducible first|exact trivial|refine j3 ?_ ?_|refine t7 (fun i hi=>?_))
    rw [List.getD_eq_getElem?_getD,List.getElem?_replicate]
    split <;> rfl
  · rintro ⟨i,o⟩ hA
    dsimp only at hA
    have gw:=r7 w i
    have hi:=hA.hi
    have hlen:=hA.len
    have hx:=r5 (by decide:0 < BB) hw i
    obtain ⟨d1,d2,d3,d4⟩:=c0c (x:=w.getD i 0) (s:=s) hx hs
    have hlow:=hA.low
    have hstep:=hA.step hs hw
    have wi:IntKind.i64.wrap ((i:Int)+1)=((i+1:Nat):Int):=by rw [IntKind.wrap_i64];omega
    have ws:IntKind.i64.wrap (64 - (s:Int))=((64 - s:Nat):Int):=by rw [IntKind.wrap_i64];omega
    have ho:=hA.lt
    have hoi:=r5 (by decide:0 < BB) ho i
    repeat' (first|(with_reducible first|refine j0 ?_|refine zwk ?_|refine i6 ?_|refine zgo ?_|refine zbn ?_|refine zge Tryz.results270 ?_|refine Sub.refl _|refine f9|refine a42 (out':=?_) ?_|refine a40 (y:=?_) ?_|refine a41 (eo':=?_) ?_)|(with_reducible refine zrs [6,9] hc ?_ ?_;focus (with_unfolding_all rfl))|(with_reducible refine zrm [6,9] hc mixed ?_ ?_;focus (with_unfolding_all rfl))|(with_reducible refine f6 ?_ ?_;focus (first|decide|omega))|(with_reducible first|refine zg2 ?_ ?_|refine zbo ?_|refine zg3 ?_ (fun h=>?_) (fun h=>?_)|refine zg4 (fun h=>?_) (fun h=>?_)|fail)|((first|omega|(simp only [wi,ws,and_true];omega));done))
    · refine m7 (st':=n5 [(1,N s),(5,.one (.own 0 1 0 (w.length+1) (w.length+1))),(6,N i),(7,U (w.getD i 0:Nat)),(12,L (y7 w)),(13,N w.length),(14,N i)] [(0,⟨1,w.length+1,fun j=> [.v (.int .u64 ((o.set i (o.getD i 0+w.getD i 0*2 ^ s%BB)).getD j 0:Nat))],false⟩)] 1) ?_ ?_
      · clear hi
        have e:=d68 (w.getD i 0) s s rfl (by omega)
        rw [Int.toNat_natCast] at e
        refine zW0 ?_ <;> repeat' (with_reducible first|exact trivial|refine j3 ?_ ?_|refine t7 (fun i hi=>?_))
        refine a06 _ (Nat.zero_add _) ?_ (by omega)
        rw [gw,Nat.zero_add]
        rw [e]
        exact c8u hlow d4 hoi (Nat.mod_lt _ (by decide))
      repeat' (first|(with_reducible first|refine j0 ?_|refine zwk ?_|refine i6 ?_|refine zgo ?_|refine zbn ?_|refine zge Tryz.results270 ?_|refine Sub.refl _|refine f9|refine a42 (out':=?_) ?_|refine a40 (y:=?_) ?_|refine a41 (eo':=?_) ?_)|(with_reducible refine zrs [9] hc ?_ ?_;focus (with_unfolding_all rfl))|(with_reducible refine zrm [9] hc mixed ?_ ?_;focus (with_unfolding_all rfl))|(with_reducible refine f6 ?_ ?_;focus (first|decide|omega))|(with_reducible first|refine zg2 ?_ ?_|refine zbo ?_|refine zg3 ?_ (fun h=>?_) (fun h=>?_)|refine zg4 (fun h=>?_) (fun h=>?_)|fail)|((first|omega|(simp only [wi,ws,and_true];omega));done))
      · refine ⟨(i+1,_),hstep (by omega),?_,?_⟩
        · dsimp only;omega
        · refine zW0 ?_ <;> repeat' (with_reducible first|exact trivial|refine j3 ?_ ?_|refine t7 (fun i hi=>?_))
          refine a06 _ (by rw [wi,Nat.zero_add,Int.toNat_natCast]) ?_ (by rw [List.length_set];omega)
          rw [c6e _ (64 - s) _ (by rw [ws];rfl) (by omega),d1]
      · obtain rfl:s=0:=by omega
        refine ⟨(i+1,_),hstep (by omega),?_,?_⟩
        · dsimp only;omega
        · refine zW0 ?_ <;> repeat' (with_reducible first|exact trivial|refine j3 ?_ ?_|refine t7 (fun i hi=>?_))
          rw [d1,Nat.div_eq_of_lt hx,d66]
          · rw [a2g _ _ (by omega),if_neg (by omega)];exact hA.zero _ (by omega)
          · rw [List.length_set];omega
    · have hiw:i=w.length:=by omega
      subst hiw
      have e:=a99 (by decide) ho hlen hA.eq
      rw [List.take_length] at e
      repeat' (first|refine zR0 hc Tryz.results270 ?_|(with_reducible first|exact trivial|refine j3 ?_ ?_|refine m8 (fun h=>?_)|fail)|(omega;done))
      all_goals exact ⟨.inr rfl,0,_,rfl,rfl,fun j _=>by rw [e]⟩
theorem d2q (w:List Nat) (s:Nat) (hw:∀d∈w,d < BB) (hs:s < 64) (lw:w.length≤1000000000000):Ax.Pure Tryz.prog G 270 [L (y7 w),N s] (L (y7 (a2p BB (w.length+1) (val BB w*2 ^ s)))):=
  c08 .u64 _ (c1x w s hw hs lw) (by rw [m5,a1a]) (fun i _=>by rw [r7])
end Go.Proofs
end
section
set_option maxHeartbeats 4000000
set_option maxRecDepth 100000
namespace Go.Proofs
open Go.Ax
theorem d4l (hi lo y:Nat) (hhi:hi < y) (hlo:lo < BB) (hy:y < BB):Ax.Pure Tryz.prog G0 267 [U hi,U lo,U y] (.tup [U ((hi*BB+lo) / y:Nat),U ((hi*BB+lo)%y:Nat)]):=by
  have hhi':hi < 18446744073709551616:=Nat.lt_trans hhi hy
  have hlo':lo < 18446744073709551616:=hlo
  have hy':y < 18446744073709551616:=hy
  obtain ⟨n1,n2,n3⟩:=c6s (show y≠0 by omega) hy
  generalize hs:64 - bl y=s at n1 n2 n3
  obtain ⟨p1,p2,p3,p4⟩:=c59 n3 hlo hhi n1 n2
  have w0':IntKind.u64.wrap ((s:Nat):Int)=(s:Int):=c7q (by omega)
  have w1:IntKind.u64.wrap (64 - (s:Int))=((64 - s:Nat):Int):=by rw [IntKind.wrap_u64];omega
  have sh1:=d68 y s s rfl (by omega)
  have sh2:=d68 hi s s rfl (by omega)
  have sh3:=d68 lo s s rfl (by omega)
  rw [Int.toNat_natCast,Nat.mod_eq_of_lt n2] at sh1
  rw [Int.toNat_natCast,Nat.mod_eq_of_lt p3] at sh2
  rw [Int.toNat_natCast] at sh3
  have sh4:=c6e lo (64 - s) ((64 - s:Nat):Int) (by simp) (by omega)
  rw [Int.toNat_natCast] at sh4
  have or1:=d82 p4 (Nat.dvd_mul_left (2 ^ s) hi) (Nat.lt_of_le_of_lt (Nat.div_le_self _ _) hlo') p3
  generalize hY:y*2 ^ s=Y at *
  generalize hT:hi*2 ^ s+lo / 2 ^ (64 - s)=T at *
  generalize hL:lo*2 ^ s%BB=l at *
  have hl:l < BB:=by rw [←hL];exact Nat.mod_lt _ (by decide)
  have hTB:T < BB:=Nat.lt_trans p1 n2
  have hk:∀a:Nat,(a:Int).fdiv (2 ^ min 32 IntKind.u64.bits)=((a / 4294967296:Nat):Int):=fun a=>d0c a 32 (by decide)
  refine r8 Tryz.func267 rfl Tryz.ntmps267 ?_
  intro w0 E0 hc
  repeat' (first|(with_reducible first|refine j0 ?_|refine zwk ?_|refine i6 ?_|refine zgo ?_|refine zbn ?_|refine zge Tryz.results267 ?_|refine Sub.refl _|refine f9|refine a42 (out':=?_) ?_|refine a40 (y:=?_) ?_|refine a41 (eo':=?_) ?_)|(with_reducible refine zrs [8] hc ?_ ?_;focus (with_unfolding_all rfl))|(with_reducible refine zrm [8] hc mixed ?_ ?_;focus (with_unfolding_all rfl))|(with_reducible refine f6 ?_ ?_;focus (first|decide|omega))|(with_reducible first|refine zg2 ?_ ?_|refine c9 (a7l _ ?_) ?_ ?_|refine zbo ?_|refine zg3 ?_ (fun h=>?_) (fun h=>?_)|refine zg4 (fun h=>?_) (fun h=>?_)|fail)|((first|exact hy|omega|(simp only [and_true];omega));done))
  · have e0:hi=0:=by omega
    exact j6 (by rw [e0,Nat.zero_mul,Nat.zero_add,b78,c2n,c7q (Nat.lt_of_le_of_lt (Nat.div_le_self _ _) hlo')])
  refine m7 (st':=n5 [(0,U hi),(1,U lo),(2,U y),(8,U s)] [] 0) ?_ ?_
  · refine zW0 ?_ <;> repeat' (with_reducible first|exact trivial|refine j3 ?_ ?_|refine t7 (fun i hi=>?_))
    all_goals rw [hs,w0']
  repeat' (first|(with_reducible first|refine j0 ?_|refine zwk ?_|refine i6 ?_|refine zgo ?_|refine zbn ?_|refine zge Tryz.results267 ?_|refine Sub.refl _|refine f9|refine a42 (out':=?_) ?_|refine a40 (y:=?_) ?_|refine a41 (eo':=?_) ?_)|(with_reducible refine zrs [9] hc ?_ ?_;focus (with_unfolding_all rfl))|(with_reducible refine zrm [9] hc mixed ?_ ?_;focus (with_unfolding_all rfl))|(with_reducible refine f6 ?_ ?_;focus (first|decide|omega))|(with_reducible first|refine zg2 ?_ ?_|refine zbo ?_|refine zg3 ?_ (fun h=>?_) (fun h=>?_)|refine zg4 (fun h=>?_) (fun h=>?_)|fail)|((first|omega|(simp only [and_true];omega));done))
  refine m7 (st':=n5 [(0,U hi),(1,U lo),(2,U Y),(8,U s)] [] 0) ?_ ?_
  · refine zW0 ?_ <;> repeat' (with_reducible first|exact trivial|refine j3 ?_ ?_|refine t7 (fun i hi=>?_))
    all_goals exact sh1
  have hY0:0 < Y / 4294967296:=by omega
  repeat' (first|(with_reducible first|refine j0 ?_|refine zwk ?_|refine zgo ?_|refine zbn ?_|refine zge Tryz.results267 ?_|refine Sub.refl _|refine f9|refine a42 (out':=?_) ?_|refine a40 (y:=?_) ?_|refine a41 (eo':=?_) ?_)|(with_reducible refine zrs [15] hc ?_ ?_;focus (with_unfolding_all rfl))|(with_reducible refine zrm [15] hc mixed ?_ ?_;focus (with_unfolding_all rfl))|(with_reducible refine f6 ?_ ?_;focus (first|decide|omega))|(with_reducible first|refine zg2 ?_ ?_|refine zbo ?_|refine zg3 ?_ (fun h=>?_) (fun h=>?_)|refine zg4 (fun h=>?_) (fun h=>?_)|fail)|((first|omega|(simp only [w1,and_true];omega));done))
  refine m7 (st':=n5 [(2,U Y),(8,U s),(9,U (Y / 4294967296:Nat)),(10,U (Y%4294967296:Nat)),(11,U T),(13,U (l / 4294967296:Nat)),(14,U (l%4294967296:Nat))] [] 0) ?_ ?_
  · have and1:∀a:Nat,IntKind.u64.wrap ((BitVec.ofInt IntKind.u64.bits (a:Int) &&& BitVec.ofInt IntKind.u64.bits 4294967295).toNat:Int)=((a%4294967296:Nat):Int):=fun a=>by
      rw [c5j,IntKind.wrap_u64];omega
    refine zW0 ?_ <;> repeat' (with_reducible first|exact trivial|refine j3 ?_ ?_|refine t7 (fun i hi=>?_))
    · rw [hk]
    · rw [and1]
    · rw [sh2,w1,Int.toNat_natCast,sh4,or1]
    · rw [sh3,hk]
    · rw [sh3,and1]
  clear sh1 sh2 sh3 sh4 or1
  have u1:l / 4294967296 < 4294967296:=d0m hl
  have u0:l%4294967296 < 4294967296:=Nat.mod_lt _ (by decide)
  have v1:Y / 4294967296 < 4294967296:=d0m n2
  have v0:Y%4294967296 < 4294967296:=Nat.mod_lt _ (by decide)
  have ve:=d0l Y
  have vt:4294967296≤2*(Y / 4294967296):=by omega
  have T1:T < Y / 4294967296*4294967296+Y%4294967296:=by rw [ve];exact p1
  generalize hy1:Y / 4294967296=y1 at *
  generalize hy0:Y%4294967296=y0 at *
  generalize hl1:l / 4294967296=l1 at *
  generalize hl0:l%4294967296=l0 at *
  repeat' (first|(with_reducible first|refine j0 ?_|refine zr0 hc ?_|refine zm0 hc ?_|refine zwk ?_|refine zgo ?_|refine zbn ?_|refine zge Tryz.results267 ?_|refine Sub.refl _|refine f9|refine a42 (out':=?_) ?_|refine a40 (y:=?_) ?_|refine a41 (eo':=?_) ?_)|(with_reducible refine f6 ?_ ?_;focus (first|decide|omega))|(with_reducible first|refine zg2 ?_ ?_|refine zbo ?_|refine zg3 ?_ (fun h=>?_) (fun h=>?_)|refine zg4 (fun h=>?_) (fun h=>?_)|fail)|((first|omega|(simp only [and_true];omega));done))
  refine a4j (α:=Nat) (fun q=>n5 [(2,U Y),(8,U s),(9,U y1),(10,U y0),(11,U T),(13,U l1),(14,U l0),(15,U q)] [] 0) (fun q=>q=(T*4294967296+l1) / (y1*4294967296+y0)) ?_ ?_
  · repeat' (first|refine zR0 hc Tryz.results267 ?_|(with_reducible first|exact trivial|refine j3 ?_ ?_|refine m8 (fun h=>?_)|fail)|((first|omega|(simp only [and_true];omega));done))
    refine m9 (α:=Nat×Nat) (fun p=>n5 [(2,U Y),(8,U s),(9,U y1),(10,U y0),(11,U T),(13,U l1),(14,U l0),(15,U p.1),(16,U p.2)] [] 0) (fun p=>KD 4294967296 y1 y0 T l1 p.1 p.2) (fun p=>p.1) (T / y1,T%y1) (KD.start vt v1 v0 u1 T1) ?_ ?_
    · refine zW0 ?_ <;> repeat' (with_reducible first|exact trivial|refine j3 ?_ ?_|refine t7 (fun i hi=>?_))
      · exact (b8m (Nat.lt_trans T1 (by rw [ve];exact n2))).1
      · exact (b8m (Nat.lt_trans T1 (by rw [ve];exact n2))).2
    · rintro ⟨q,r⟩ hK
      dsimp only at hK
      obtain ⟨b1,b2,b3,b4⟩:=c6n hK v0 u1 v1
      repeat' (first|refine zR0 hc Tryz.results267 ?_|(with_reducible first|exact trivial|refine j3 ?_ ?_|refine m8 (fun h=>?_)|fail)|((first|omega|(simp only [and_true];omega));done))
      · rename_i g1 g2
        rw [b1,b2] at g2
        rw [b3] at h
        have hc':4294967296≤q∨4294967296*r+l1 < q*y0:=.inr (by omega)
        refine ⟨_,(hK.stop T1 u1 v0 hc' (by omega)).1,?_⟩
        refine zW0 ?_ <;> repeat' (with_reducible first|exact trivial|refine j3 ?_ ?_|refine t7 (fun i hi=>?_))
        all_goals exact b4 (hK.more T1 u1 hc').1
      · rename_i g1 g2
        rw [b1,b2] at g2
        rw [b3] at h
        have hc':4294967296≤q∨4294967296*r+l1 < q*y0:=.inr (by omega)
        have hq1:=(hK.more T1 u1 hc').1
        refine ⟨(_,_),hK.next T1 u1 hc' (by omega),by dsimp only;omega,?_⟩
        refine zW0 ?_ <;> repeat' (with_reducible first|exact trivial|refine j3 ?_ ?_|refine t7 (fun i hi=>?_))
        all_goals exact b4 hq1
      · rename_i g1
        rw [b1,b2] at h
        refine ⟨_,hK.done (by omega),?_⟩
        refine zW0 ?_ <;> repeat' (with_reducible first|exact trivial|refine j3 ?_ ?_|refine t7 (fun i hi=>?_))
      · rename_i g1
        rw [b3] at h
        have hc':4294967296≤q∨4294967296*r+l1 < q*y0:=.inl (by omega)
        refine ⟨_,(hK.stop T1 u1 v0 hc' (by omega)).1,?_⟩
        refine zW0 ?_ <;> repeat' (with_reducible first|exact trivial|refine j3 ?_ ?_|refine t7 (fun i hi=>?_))
        all_goals exact b4 (hK.more T1 u1 hc').1
      · rename_i g1
        rw [b3] at h
        have hc':4294967296≤q∨4294967296*r+l1 < q*y0:=.inl (by omega)
        have hq1:=(hK.more T1 u1 hc').1
        refine ⟨(_,_),hK.next T1 u1 hc' (by omega),by dsimp only;omega,?_⟩
        refine zW0 ?_ <;> repeat' (with_reducible first|exact trivial|refine j3 ?_ ?_|refine t7 (fun i hi=>?_))
        all_goals exact b4 hq1
  rintro q1 hq1
  rw [ve] at hq1
  have hYp:0 < Y:=by omega
  have T2:(T*4294967296+l1)%Y < y1*4294967296+y0:=Nat.lt_of_lt_of_le (Nat.mod_lt _ hYp) (Nat.le_of_eq ve.symm)
  obtain ⟨T',hT2⟩:∃T',(T*4294967296+l1)%Y=T':=⟨_,rfl⟩
  rw [hT2] at T2
  have ed:=Nat.div_add_mod (T*4294967296+l1) Y
  rw [←hq1,hT2] at ed
  have hT':T' < 18446744073709551616:=Nat.lt_trans T2 (by rw [ve];exact n2)
  repeat' (first|(with_reducible first|refine j0 ?_|refine zwk ?_|refine i6 ?_|refine zgo ?_|refine zbn ?_|refine zge Tryz.results267 ?_|refine Sub.refl _|refine f9|refine a42 (out':=?_) ?_|refine a40 (y:=?_) ?_|refine a41 (eo':=?_) ?_)|(with_reducible refine zrs [22] hc ?_ ?_;focus (with_unfolding_all rfl))|(with_reducible refine zrm [22] hc mixed ?_ ?_;focus (with_unfolding_all rfl))|(with_reducible refine f6 ?_ ?_;focus (first|decide|omega))|(with_reducible first|refine zg2 ?_ ?_|refine zbo ?_|refine zg3 ?_ (fun h=>?_) (fun h=>?_)|refine zg4 (fun h=>?_) (fun h=>?_)|fail)|((first|omega|(simp only [and_true];omega));done))
  refine m7 (st':=n5 [(2,U Y),(8,U s),(9,U y1),(10,U y0),(14,U l0),(15,U q1),(17,U T')] [] 0) ?_ ?_
  · refine zW0 ?_ <;> repeat' (with_reducible first|exact trivial|refine j3 ?_ ?_|refine t7 (fun i hi=>?_))
    rw [show (T:Int)*4294967296=((T*4294967296:Nat):Int) by omega,←Int.natCast_mul]
    exact wsub (by rw [←ed,Nat.mul_comm]) hT'
  repeat' (first|(with_reducible first|refine j0 ?_|refine zr0 hc ?_|refine zm0 hc ?_|refine zwk ?_|refine zgo ?_|refine zbn ?_|refine zge Tryz.results267 ?_|refine Sub.refl _|refine f9|refine a42 (out':=?_) ?_|refine a40 (y:=?_) ?_|refine a41 (eo':=?_) ?_)|(with_reducible refine f6 ?_ ?_;focus (first|decide|omega))|(with_reducible first|refine zg2 ?_ ?_|refine zbo ?_|refine zg3 ?_ (fun h=>?_) (fun h=>?_)|refine zg4 (fun h=>?_) (fun h=>?_)|fail)|((first|omega|(simp only [and_true];omega));done))
  refine a4j (α:=Nat) (fun q=>n5 [(2,U Y),(8,U s),(9,U y1),(10,U y0),(14,U l0),(15,U q1),(17,U T'),(18,U q)] [] 0) (fun q=>q=(T'*4294967296+l0) / (y1*4294967296+y0)) ?_ ?_
  · repeat' (first|refine zR0 hc Tryz.results267 ?_|(with_reducible first|exact trivial|refine j3 ?_ ?_|refine m8 (fun h=>?_)|fail)|((first|omega|(simp only [and_true];omega));done))
    refine m9 (α:=Nat×Nat) (fun p=>n5 [(2,U Y),(8,U s),(9,U y1),(10,U y0),(14,U l0),(15,U q1),(17,U T'),(18,U p.1),(16,U p.2)] [] 0) (fun p=>KD 4294967296 y1 y0 T' l0 p.1 p.2) (fun p=>p.1) (T' / y1,T'%y1) (KD.start vt v1 v0 u0 T2) ?_ ?_
    · refine zW0 ?_ <;> repeat' (with_reducible first|exact trivial|refine j3 ?_ ?_|refine t7 (fun i hi=>?_))
      · exact (b8m (Nat.lt_trans T2 (by rw [ve];exact n2))).1
      · exact (b8m (Nat.lt_trans T2 (by rw [ve];exact n2))).2
    · rintro ⟨q,r⟩ hK
      dsimp only at hK
      obtain ⟨b1,b2,b3,b4⟩:=c6n hK v0 u0 v1
      repeat' (first|refine zR0 hc Tryz.results267 ?_|(with_reducible first|exact trivial|refine j3 ?_ ?_|refine m8 (fun h=>?_)|fail)|((first|omega|(simp only [and_true];omega));done))
      · rename_i g1 g2
        rw [b1,b2] at g2
        rw [b3] at h
        have hc':4294967296≤q∨4294967296*r+l0 < q*y0:=.inr (by omega)
        refine ⟨_,(hK.stop T2 u0 v0 hc' (by omega)).1,?_⟩
        refine zW0 ?_ <;> repeat' (with_reducible first|exact trivial|refine j3 ?_ ?_|refine t7 (fun i hi=>?_))
        all_goals exact b4 (hK.more T2 u0 hc').1
      · rename_i g1 g2
        rw [b1,b2] at g2
        rw [b3] at h
        have hc':4294967296≤q∨4294967296*r+l0 < q*y0:=.inr (by omega)
        have hq1:=(hK.more T2 u0 hc').1
        refine ⟨(_,_),hK.next T2 u0 hc' (by omega),by dsimp only;omega,?_⟩
        refine zW0 ?_ <;> repeat' (with_reducible first|exact trivial|refine j3 ?_ ?_|refine t7 (fun i hi=>?_))
        all_goals exact b4 hq1
      · rename_i g1
        rw [b1,b2] at h
        refine ⟨_,hK.done (by omega),?_⟩
        refine zW0 ?_ <;> repeat' (with_reducible first|exact trivial|refine j3 ?_ ?_|refine t7 (fun i hi=>?_))
      · rename_i g1
        rw [b3] at h
        have hc':4294967296≤q∨4294967296*r+l0 < q*y0:=.inl (by omega)
        refine ⟨_,(hK.stop T2 u0 v0 hc' (by omega)).1,?_⟩
        refine zW0 ?_ <;> repeat' (with_reducible first|exact trivial|refine j3 ?_ ?_|refine t7 (fun i hi=>?_))
        all_goals exact b4 (hK.more T2 u0 hc').1
      · rename_i g1
        rw [b3] at h
        have hc':4294967296≤q∨4294967296*r+l0 < q*y0:=.inl (by omega)
        have hq1:=(hK.more T2 u0 hc').1
        refine ⟨(_,_),hK.next T2 u0 hc' (by omega),by dsimp only;omega,?_⟩
        refine zW0 ?_ <;> repeat' (with_reducible first|exact trivial|refine j3 ?_ ?_|refine t7 (fun i hi=>?_))
        all_goals exact b4 hq1
  rintro q0 hq0
  rw [ve] at hq0
  have ed0:=Nat.div_add_mod (T'*4294967296+l0) Y
  have hr0:(T'*4294967296+l0)%Y < Y:=Nat.mod_lt _ (by omega)
  repeat' (first|refine zR0 hc Tryz.results267 ?_|(with_reducible first|exact trivial|refine j3 ?_ ?_|refine m8 (fun h=>?_)|fail)|((first|omega|(simp only [and_true];omega));done))
  have d1:=c78 (T:=T) (R:=4294967296) (u1:=l1) (u0:=l0) (y:=Y) (by omega)
  rw [hT2,←hq1,←hq0] at d1
  have el:T*4294967296*4294967296+l1*4294967296+l0=(hi*BB+lo)*2 ^ s:=by
    have:=d0l l
    rw [hl1,hl0] at this
    have hBB:(4294967296*4294967296:Nat)=BB:=rfl
    rw [←p2,←this,Nat.mul_assoc T,hBB,Nat.add_assoc]
  rw [el,←hY,Nat.mul_div_mul_right _ _ (Nat.two_pow_pos s),Nat.mul_mod_mul_right] at d1
  rw [hY] at d1
  have hq:q1*4294967296+q0 < 18446744073709551616:=by
    rw [d1.1,Nat.div_lt_iff_lt_mul (by omega)]
    have:(hi+1)*BB≤y*BB:=Nat.mul_le_mul_right _ hhi
    rw [Nat.add_mul] at this
    show _ < BB*y
    rw [Nat.mul_comm BB]
    omega
  have e4:T'*4294967296+l0=q0*Y+(T'*4294967296+l0)%Y:=by rw [hq0,Nat.mul_comm _ Y];exact ed0.symm
  refine j6 ?_
  rw [←d1.1]
  rw [show (T':Int)*4294967296=((T'*4294967296:Nat):Int) by omega,←Int.natCast_mul,wsub (r:=(hi*BB+lo)%y*2 ^ s) (by rw [←d1.2];exact e4) (by rw [←d1.2];exact Nat.lt_trans hr0 n2)]
  have e2:=c6e ((hi*BB+lo)%y*2 ^ s) s (s:Int) (by simp) (by omega)
  rw [Int.toNat_natCast] at e2
  rw [e2,Nat.mul_div_cancel _ (Nat.two_pow_pos s)]
  have e3:IntKind.u64.wrap (IntKind.u64.wrap ((q1:Int)*4294967296)+q0)=((q1*4294967296+q0:Nat):Int):=by
    rw [IntKind.wrap_u64,IntKind.wrap_u64];omega
  rw [e3]
theorem c1q (hi lo y:Int) (h:0≤hi∧hi < y∧0≤lo∧lo < 18446744073709551616∧y < 18446744073709551616):Ax.Pure Tryz.prog G0 267 [U hi,U lo,U y] (.tup [U ((hi*18446744073709551616+lo) / y),U ((hi*18446744073709551616+lo)%y)]):=by
  obtain ⟨h1,h2,h3,h4,h5⟩:=h
  obtain ⟨hi,rfl⟩:=Int.eq_ofNat_of_zero_le h1
  obtain ⟨lo,rfl⟩:=Int.eq_ofNat_of_zero_le h3
  obtain ⟨y,rfl⟩:=Int.eq_ofNat_of_zero_le (show 0≤y by omega)
  have:=d4l hi lo y (by omega) (show lo < 18446744073709551616 by omega) (show y < 18446744073709551616 by omega)
  have e1:(((hi*BB+lo) / y:Nat):Int)=((hi:Int)*18446744073709551616+lo) / y:=by rw [Int.natCast_ediv,Int.natCast_add,Int.natCast_mul];rfl
  have e2:(((hi*BB+lo)%y:Nat):Int)=((hi:Int)*18446744073709551616+lo)%y:=by rw [Int.natCast_emod,Int.natCast_add,Int.natCast_mul];rfl
  rw [e1,e2] at this
  exact this
theorem d4z (hi lo y:Int) (h:0≤hi∧hi < y∧0≤lo∧lo < 18446744073709551616∧y < 18446744073709551616):Ax.Pure Tryz.prog G 267 [U hi,U lo,U y] (.tup [U ((hi*18446744073709551616+lo) / y),U ((hi*18446744073709551616+lo)%y)]):=b1i (c1q hi lo y h)
end Go.Proofs
end
section
set_option maxHeartbeats 8000000
set_option maxRecDepth 100000
namespace Go.Proofs
open Go.Ax
abbrev a8c (m:Nat) (o:List Nat):Box:=⟨1,m,fun k=> [.v (.int .u64 (o.getD k 0:Nat))],false⟩
theorem d76 (o v:List Nat) (j n m cc:Nat) (ho:∀d∈o,d < BB) (hv:∀d∈v,d < BB) (hn:v.length=n+2) (hm:o.length=m) (hj:j+(n+3)≤m) (lo:m≤4000000000000) (hv1:0 < v.getD (n+1) 0) (hUV:val BB ((o.drop j).take (n+3)) < BB*val BB v) :
    b0v Tryz.prog G0 271 (a8c m o) [.one (.own 0 1 j (n+3) cc),L (y7 v)] (U (val BB ((o.drop j).take (n+3)) / val BB v:Nat)) (a8c m (rw3 o j (a2p BB (n+3) (val BB ((o.drop j).take (n+3))%val BB v)))):=by
  have lv':=m5 v
  have hwl:((o.drop j).take (n+3)).length=n+3:=by simp;omega
  have go:∀i,i < n+3→o.getD (j+i) 0=((o.drop j).take (n+3)).getD i 0:=fun i hi=>by
    simp only [List.getD_eq_getElem?_getD,List.getElem?_take,if_pos hi,List.getElem?_drop]
  have hw:∀d∈(o.drop j).take (n+3),d < BB:=fun d hd=>ho d (List.mem_of_mem_drop (List.mem_of_mem_take hd))
  have hU:=c7p (B:=BB) hwl
  have hV:=c7o (B:=BB) hn
  have go1:=go (n+2) (by omega)
  have go2:=go (n+1) (by omega)
  have go3:=go n (by omega)
  generalize hwin:(o.drop j).take (n+3)=win at *
  have gv1:=r7 v (n+1)
  have gv2:=r7 v n
  have b1:v.getD (n+1) 0 < BB:=r5 (by decide) hv _
  have b2:v.getD n 0 < BB:=r5 (by decide) hv _
  have c1:win.getD (n+2) 0 < BB:=r5 (by decide) hw _
  have c2:win.getD (n+1) 0 < BB:=r5 (by decide) hw _
  have c3:win.getD n 0 < BB:=r5 (by decide) hw _
  have hVl:val BB (v.take n) < BB ^ n:=by
    have:=a03 BB (v.take n) (fun d hd=>hv d (List.mem_of_mem_take hd))
    rwa [List.length_take,Nat.min_eq_left (by omega)] at this
  have hUl:val BB (win.take n) < BB ^ n:=by
    have:=a03 BB (win.take n) (fun d hd=>hw d (List.mem_of_mem_take hd))
    rwa [List.length_take,Nat.min_eq_left (by omega)] at this
  generalize hv1':v.getD (n+1) 0=v1 at *
  generalize hv2':v.getD n 0=v2 at *
  generalize hu1':win.getD (n+2) 0=u1 at *
  generalize hu2':win.getD (n+1) 0=u2 at *
  generalize hu3':win.getD n 0=u3 at *
  generalize hVv:val BB v=V at *
  generalize hUv:val BB win=W at *
  obtain ⟨T,hT⟩:∃T,u1*BB+u2=T:=⟨_,rfl⟩
  rw [hT] at hU
  generalize val BB (v.take n)=Vl at *
  generalize val BB (win.take n)=Ul at *
  have wn1:IntKind.i64.wrap (((n+2:Nat):Int) - 1)=((n+1:Nat):Int):=by rw [IntKind.wrap_i64];omega
  have wn2:IntKind.i64.wrap (((n+2:Nat):Int) - 2)=((n:Nat):Int):=by rw [IntKind.wrap_i64];omega
  refine b1y a1u Tryz.func271 rfl (by kernel_rfl) (fun _=>trivial) ?_ (by rw [Tryz.ntmps271];exact of_decide_eq_true rfl) (by simp [AV.cl,i7.cl]) ⟨fun _ _=>⟨trivial,trivial⟩,fun _ _=>⟨trivial,trivial⟩⟩ ?_
  · intro x hx
    simp only [List.mem_cons,List.not_mem_nil,or_false] at hx
    rcases hx with rfl|rfl
    · exact ⟨_,rfl,.inl ⟨_,_,_,_,rfl⟩⟩
    · exact ⟨_,rfl,.inr rfl⟩
  intro w0 E0 W0 hc
  refine m7 (st':=n5 [(0,.one (.own 0 1 j (n+3) cc)),(1,L (y7 v))] [(0,a8c m o)] 1) ?_ ?_
  · refine zW0 ?_ <;> repeat' (with_reducible first|exact trivial|refine j3 ?_ ?_|refine t7 (fun i hi=>?_))
    all_goals rfl
  repeat' (first|(with_reducible first|refine j0 ?_|refine zwk ?_|refine i6 ?_|refine zgo ?_|refine zbn ?_|refine zge Tryz.results271 ?_|refine Sub.refl _|refine f9|refine a42 (out':=?_) ?_|refine a40 (y:=?_) ?_|refine a41 (eo':=?_) ?_)|(with_reducible refine zrs [4] hc ?_ ?_;focus (with_unfolding_all rfl))|(with_reducible refine zrm [4] hc mixed ?_ ?_;focus (with_unfolding_all rfl))|(with_reducible refine f6 ?_ ?_;focus (first|decide|omega))|(with_reducible first|refine zg2 ?_ ?_|refine zbo ?_|refine zg3 ?_ (fun h=>?_) (fun h=>?_)|refine zg4 (fun h=>?_) (fun h=>?_)|fail)|(first|omega|(simp only [IntKind.wrap_i64,IntKind.wrap_u64,Bool.and_self,true_and,and_true];omega);done))
  refine m7 (st':=n5 [(0,.one (.own 0 1 j (n+3) cc)),(1,L (y7 v)),(5,N (n+2:Nat)),(8,U (0:Nat))] [(0,a8c m o)] 1) ?_ ?_
  · refine zW0 ?_ <;> repeat' (with_reducible first|exact trivial|refine j3 ?_ ?_|refine t7 (fun i hi=>?_))
    all_goals rfl
  repeat' (first|(with_reducible first|refine j0 (x:=.region _ _ _) ?_|refine j0 (x:=.seq _ _) ?_|refine j0 (x:=.block _ _) ?_|refine j0 (x:=.loop _) ?_|refine j0 (x:=.skip) ?_|refine zr0 hc ?_|refine zm0 hc ?_|refine i6 ?_|refine zgo ?_|refine zbn ?_|refine zge Tryz.results271 ?_|refine Sub.refl _|refine f9|refine a42 (out':=?_) ?_|refine a40 (y:=?_) ?_|refine a41 (eo':=?_) ?_)|(with_reducible refine f6 ?_ ?_;focus (first|decide|omega))|(with_reducible first|refine zg2 ?_ ?_|refine zbo ?_|refine zg3 ?_ (fun h=>?_) (fun h=>?_)|refine zg4 (fun h=>?_) (fun h=>?_)|fail)|((first|omega|(simp only [wn1,wn2,Int.toNat_natCast,and_true];omega));done))
  have E1:(y7 v).getD (IntKind.i64.wrap (((n+2:Nat):Int) - 1)).toNat 0=(v1:Int):=by rw [wn1,Int.toNat_natCast,gv1]
  have E2:(y7 v).getD (IntKind.i64.wrap (((n+2:Nat):Int) - 2)).toNat 0=(v2:Int):=by rw [wn2,Int.toNat_natCast,gv2]
  have F2:o.getD (j+(IntKind.i64.wrap (((n+2:Nat):Int) - 1)).toNat) 0=u2:=by rw [wn1,Int.toNat_natCast,go2]
  have F3:o.getD (j+(IntKind.i64.wrap (((n+2:Nat):Int) - 2)).toNat) 0=u3:=by rw [wn2,Int.toNat_natCast,go3]
  have F1:=go1
  have b1':v1 < 18446744073709551616:=b1
  have b2':v2 < 18446744073709551616:=b2
  have c1':u1 < 18446744073709551616:=c1
  have c2':u2 < 18446744073709551616:=c2
  have c3':u3 < 18446744073709551616:=c3
  have hBB:0 < BB:=by decide
  have i1:∀a b:Nat,(a:Int)*b / 18446744073709551616=((a*b / BB:Nat):Int):=fun a b=>by rw [Int.natCast_ediv,Int.natCast_mul];rfl
  have i2:∀a b:Nat,(a:Int)*b%18446744073709551616=((a*b%BB:Nat):Int):=fun a b=>by rw [Int.natCast_emod,Int.natCast_mul];rfl
  have P:∀q,q*v2=q*v2 / BB*BB+q*v2%BB:=fun q=>by have:=Nat.div_add_mod (q*v2) BB;rw [Nat.mul_comm BB] at this;exact this.symm
  refine a4j (α:=Nat×Nat×Nat) (fun p=>n5 [(0,.one (.own 0 1 j (n+3) cc)),(1,L (y7 v)),(5,N (n+2:Nat)),(6,U p.1),(7,U p.2.1),(8,U p.2.2)] [(0,a8c m o)] 1) (fun p=>KQ BB v1 T W V p.1 p.2.1 p.2.2) ?_ ?_
  · repeat' (first|refine zR0 hc Tryz.results271 ?_|(with_reducible first|exact trivial|refine j3 ?_ ?_|refine m8 (fun h=>?_)|refine c9 (c1q _ _ _ ?_) ?_ ?_|refine c7s (b13 _ _ _ ?_) ?_ ?_|fail)|((first|omega|(simp only [wn1,wn2,Int.toNat_natCast,and_true];omega));done))
    · rw [E1,F1] at h
      refine ⟨(BB - 1,(u2+v1)%BB,(u2+v1) / BB),KQ.start1 hT.symm hU hV hUV hVl b1 b2 c2 (by omega),?_⟩
      refine zW0 ?_ <;> repeat' (with_reducible first|exact trivial|refine j3 ?_ ?_|refine t7 (fun i hi=>?_))
      all_goals first|rfl|(rw [E1,F2];simp only [BB];omega)
    · rw [E1,F1] at h
      refine ⟨(T / v1,T%v1,0),KQ.start2 hT.symm hU hV hUl c3 b1 c2 (by omega),?_⟩
      refine zW0 ?_ <;> repeat' (with_reducible first|exact trivial|refine j3 ?_ ?_|refine t7 (fun i hi=>?_))
      all_goals first|rfl|(rw [E1,F1,F2,←hT,Int.natCast_ediv,Int.natCast_add,Int.natCast_mul];rfl)|(rw [E1,F1,F2,←hT,Int.natCast_emod,Int.natCast_add,Int.natCast_mul];rfl)
  rintro ⟨q,r,over⟩ hQ
  dsimp only at hQ
  repeat' (first|(with_reducible first|refine j0 ?_|refine zr0 hc ?_|refine zm0 hc ?_|refine zwk ?_|refine zgo ?_|refine zbn ?_|refine zge Tryz.results271 ?_|refine Sub.refl _|refine f9|refine a42 (out':=?_) ?_|refine a40 (y:=?_) ?_|refine a41 (eo':=?_) ?_)|(with_reducible refine f6 ?_ ?_;focus (first|decide|omega))|(with_reducible first|refine zg2 ?_ ?_|refine zbo ?_|refine zg3 ?_ (fun h=>?_) (fun h=>?_)|refine zg4 (fun h=>?_) (fun h=>?_)|fail)|((first|omega|(simp only [wn1,wn2,Int.toNat_natCast,and_true];omega));done))
  refine a4j (α:=Nat) (fun q=>n5 [(0,.one (.own 0 1 j (n+3) cc)),(1,L (y7 v)),(5,N (n+2:Nat)),(6,U q)] [(0,a8c m o)] 1) (fun q=>KG BB W V q) ?_ ?_
  · repeat' (first|refine zR0 hc Tryz.results271 ?_|(with_reducible first|exact trivial|refine j3 ?_ ?_|refine m8 (fun h=>?_)|fail)|((first|omega|(simp only [wn1,wn2,Int.toNat_natCast,and_true];omega));done))
    refine m9 (α:=Nat×Nat×Nat) (fun p=>n5 [(0,.one (.own 0 1 j (n+3) cc)),(1,L (y7 v)),(5,N (n+2:Nat)),(6,U p.1),(7,U p.2.1),(8,U p.2.2)] [(0,a8c m o)] 1) (fun p=>KQ BB v1 T W V p.1 p.2.1 p.2.2) (fun p=>p.1) (q,r,over) hQ ?_ ?_
    · refine zW0 ?_ <;> repeat' (with_reducible first|exact trivial|refine j3 ?_ ?_|refine t7 (fun i hi=>?_))
      all_goals rfl
    · clear hQ q r over
      rintro ⟨q,r,over⟩ hQ
      dsimp only at hQ
      have hq:=hQ.hq
      have hr:=hQ.hr
      have hov:=hQ.hov
      repeat' (first|refine zR0 hc Tryz.results271 ?_|(with_reducible first|exact trivial|refine j3 ?_ ?_|refine m8 (fun h=>?_)|refine c9 (b9a _ _ ?_) ?_ ?_|refine c7s (b13 _ _ _ ?_) ?_ ?_|fail)|((first|omega|(simp only [wn1,wn2,Int.toNat_natCast,and_true];omega));done))
      · rw [E2];simp only [BB] at hq;omega
      · rename_i g1 g2 g3
        obtain rfl:over=0:=by omega
        rw [E2,i1] at g2 g3
        rw [E2,i2,F3] at h
        have hg:=(b42 (P q) (Nat.mod_lt _ hBB) c3 (r:=r)).1 (by generalize q*v2 / BB=hh at *;generalize q*v2%BB=ll at *;omega)
        refine ⟨q,hQ.break hU hV hVl hv1 hg,?_⟩
        refine zW0 ?_ <;> repeat' (with_reducible first|exact trivial|refine j3 ?_ ?_|refine t7 (fun i hi=>?_))
        all_goals rfl
      · rename_i g1 g2 g3
        obtain rfl:over=0:=by omega
        rw [E2,i1] at g2 g3
        rw [E2,i2,F3] at h
        have hg:=Nat.lt_of_not_le (fun hle=>absurd ((b42 (P q) (Nat.mod_lt _ hBB) c3 (r:=r)).2 hle) (by generalize q*v2 / BB=hh at *;generalize q*v2%BB=ll at *;omega))
        obtain ⟨hq1,hnx⟩:=hQ.next hU hV hUl b1 hg
        refine ⟨(_,_,_),hnx,by dsimp only;omega,?_⟩
        refine zW0 ?_ <;> repeat' (with_reducible first|exact trivial|refine j3 ?_ ?_|refine t7 (fun i hi=>?_))
        all_goals first|rfl|(rw [E1];simp only [BB] at *;omega)|(simp only [BB] at *;rw [IntKind.wrap_u64];omega)
      · rename_i g1 g2
        obtain rfl:over=0:=by omega
        rw [E2,i1] at g2 h
        have hg:=Nat.lt_of_not_le (fun hle=>absurd ((b42 (P q) (Nat.mod_lt _ hBB) c3 (r:=r)).2 hle) (by generalize q*v2 / BB=hh at *;generalize q*v2%BB=ll at *;omega))
        obtain ⟨hq1,hnx⟩:=hQ.next hU hV hUl b1 hg
        refine ⟨(_,_,_),hnx,by dsimp only;omega,?_⟩
        refine zW0 ?_ <;> repeat' (with_reducible first|exact trivial|refine j3 ?_ ?_|refine t7 (fun i hi=>?_))
        all_goals first|rfl|(rw [E1];simp only [BB] at *;omega)|(simp only [BB] at *;rw [IntKind.wrap_u64];omega)
      · rename_i g1
        obtain rfl:over=0:=by omega
        rw [E2,i1] at h
        have hg:=(b42 (P q) (Nat.mod_lt _ hBB) c3 (r:=r)).1 (by generalize q*v2 / BB=hh at *;generalize q*v2%BB=ll at *;omega)
        refine ⟨q,hQ.break hU hV hVl hv1 hg,?_⟩
        refine zW0 ?_ <;> repeat' (with_reducible first|exact trivial|refine j3 ?_ ?_|refine t7 (fun i hi=>?_))
        all_goals rfl
      · obtain rfl:over=1:=by omega
        refine ⟨q,hQ.carry hU hV hVl b2 hv1,?_⟩
        refine zW0 ?_ <;> repeat' (with_reducible first|exact trivial|refine j3 ?_ ?_|refine t7 (fun i hi=>?_))
        all_goals rfl
  clear hQ q r over
  rintro q hG
  have hq:=hG.hq
  have hq':q < 18446744073709551616:=hq
  repeat' (first|refine zR0 hc Tryz.results271 ?_|(with_reducible first|exact trivial|refine j3 ?_ ?_|refine m8 (fun h=>?_)|fail)|((first|omega|(simp only [wn1,wn2,Int.toNat_natCast,and_true];omega));done))
  have hwin':∀i,i < n+3→o.getD (j+i) 0=win.getD i 0:=go
  have hBo:2≤BB:=by decide
  have hVB:V < BB ^ (n+2):=by rw [←hVv,←hn];exact a03 BB v hv
  have hWB:W < BB ^ (n+3):=by rw [←hUv,←hwl];exact a03 BB win hw
  have hVp:0 < V:=by
    rcases Nat.eq_zero_or_pos V with e|e
    · rw [e] at hUV;simp at hUV
    · exact e
  refine m9 (α:=List Nat×Nat×Nat) (fun p=>n5 [(0,.one (.own 0 1 j (n+3) cc)),(1,L (y7 v)),(5,N (n+2:Nat)),(6,U q),(11,U p.2.2),(12,U p.2.1),(104,N (n+2:Nat)),(105,N p.1.length)] [(0,a8c m (rw3 o j p.1))] 1)
    (fun p=>c02 BB q win v p.1 p.2.1 p.2.2) (fun p=>n+2 - p.1.length) ([],0,0) (c02.nil hBB win v) ?_ ?_
  · refine zW0 ?_ <;> repeat' (with_reducible first|exact trivial|refine j3 ?_ ?_|refine t7 (fun i hi=>?_))
    all_goals first|rfl|(rw [b8w])
  rintro ⟨d,c,b⟩ hM
  dsimp only at hM
  have hdl:=hM.len
  have hcb:=hM.hc
  have hbb:=hM.hb
  have hcb':c < 18446744073709551616:=hcb
  rw [hn] at hdl
  have gvd:=r7 v d.length
  have bvd:v.getD d.length 0 < BB:=r5 hBB hv _
  have bvd':v.getD d.length 0 < 18446744073709551616:=bvd
  have hrow:(rw3 o j d).getD (j+d.length) 0=win.getD d.length 0:=by rw [b66 (by omega) (Nat.le_refl _),go _ (by omega)]
  have bwd:win.getD d.length 0 < BB:=r5 hBB hw _
  have hrow2:d.length=n+2→(rw3 o j d).getD (j+(n+2)) 0=win.getD (n+2) 0:=fun e=>by rw [b66 (by omega) (by omega),go _ (by omega)]
  repeat' (first|(with_reducible first|refine j0 ?_|refine zwk ?_|refine i6 ?_|refine zgo ?_|refine zbn ?_|refine zge Tryz.results271 ?_|refine Sub.refl _|refine f9|refine a42 (out':=?_) ?_|refine a40 (y:=?_) ?_|refine a41 (eo':=?_) ?_)|(with_reducible refine zrs [24] hc ?_ ?_;focus (with_unfolding_all rfl))|(with_reducible refine zrm [24] hc mixed ?_ ?_;focus (with_unfolding_all rfl))|(with_reducible refine f6 ?_ ?_;focus (first|decide|omega))|(with_reducible first|refine zg2 ?_ ?_|refine c9 (b9a _ _ ?_) ?_ ?_|refine c7s (b13 _ _ _ ?_) ?_ ?_|refine c7s (c95 _ _ _ ?_) ?_ ?_|refine zbo ?_|refine zg3 ?_ (fun h=>?_) (fun h=>?_)|refine zg4 (fun h=>?_) (fun h=>?_)|fail)|((first|omega|(simp only [wn1,wn2,Int.toNat_natCast,and_true];omega));done))
  · obtain ⟨m1,m2⟩:=d6c hq bvd hcb
    have m3:=c2l (l:=(q*v.getD d.length 0%BB+c)%BB) (b:=b) bwd (Nat.mod_lt _ hBB) hbb
    have Y1:((q:Int)*(y7 v).getD d.length 0%18446744073709551616+(c:Int)+0)%18446744073709551616=(((q*v.getD d.length 0%BB+c)%BB:Nat):Int):=by
      rw [gvd,Int.add_zero,←Int.natCast_mul]
      generalize q*v.getD d.length 0=P'
      simp only [BB];omega
    have Y2:IntKind.u64.wrap ((q:Int)*(y7 v).getD d.length 0 / 18446744073709551616+((q:Int)*(y7 v).getD d.length 0%18446744073709551616+(c:Int)+0) / 18446744073709551616)=((q*v.getD d.length 0 / BB+(q*v.getD d.length 0%BB+c) / BB:Nat):Int):=by
      rw [gvd,Int.add_zero,←Int.natCast_mul]
      clear m2 m3
      generalize q*v.getD d.length 0=P' at *
      rw [IntKind.wrap_u64]
      simp only [BB] at *;omega
    have hb1:(if win.getD d.length 0 < (q*v.getD d.length 0%BB+c)%BB+b then 1 else 0)≤1:=by split <;> omega
    refine ⟨(_,_,_),c02.step hM (by omega) m1 (Nat.mod_lt _ hBB) hb1 m2 m3,?_,?_⟩
    · simp only [List.length_append,List.length_singleton];omega
    · refine zW0 ?_ <;> repeat' (with_reducible first|exact trivial|refine j3 ?_ ?_|refine t7 (fun i hi=>?_))
      all_goals first|exact Y2|(simp only [Y1,Int.toNat_natCast,hrow];rfl)|skip
      all_goals
        rw [←a4s (by omega)]
        exact a06 _ rfl (by simp only [Y1,Int.toNat_natCast,hrow]) (by rw [a0u (by omega)];omega)
  have hdn:d.length=n+2:=by omega
  have hrow2':=hrow2 hdn
  have s1:=c2l (u:=win.getD (n+2) 0) (l:=c) (b:=b) (r5 hBB hw _) hcb hbb
  have hD:=hM.done (by rw [hdn,hn]) (by rw [hwl,hn]) (b':=if win.getD (n+2) 0 < c+b then 1 else 0) (d:=(win.getD (n+2) 0+BB - c - b)%BB) (by rw [hn];exact s1)
  have hDd:∀x∈d++ [(win.getD (n+2) 0+BB - c - b)%BB],x < BB:=a2d hM.lt (Nat.mod_lt _ hBB)
  have hrs:=a4s (o:=o) (j:=j) (d:=d) (by omega) ((win.getD (n+2) 0+BB - c - b)%BB)
  have htop:(d++ [(win.getD (n+2) 0+BB - c - b)%BB]).getD (n+2) 0=(win.getD (n+2) 0+BB - c - b)%BB:=by rw [b2b,if_pos hdn.symm]
  have hlD:(d++ [(win.getD (n+2) 0+BB - c - b)%BB]).length=n+3:=by simp [hdn]
  rw [hVv,hUv,hn] at hD
  generalize hdt:(win.getD (n+2) 0+BB - c - b)%BB=dt at *
  generalize hbr:(if win.getD (n+2) 0 < c+b then 1 else 0)=br at *
  have hbr1:br≤1:=by rw [←hbr];split <;> omega
  generalize hDL:d++ [dt]=D at *
  refine m7 (st':=n5 [(0,.one (.own 0 1 j (n+3) cc)),(1,L (y7 v)),(5,N (n+2:Nat)),(6,U q),(11,U br)] [(0,a8c m (rw3 o j D))] 1) ?_ ?_
  · refine zW0 ?_ <;> repeat' (with_reducible first|exact trivial|refine j3 ?_ ?_|refine t7 (fun i hi=>?_))
    · rw [←hbr];simp only [Int.toNat_natCast,hrow2']
    · rw [←hrs]
      exact a06 _ (by rw [hdn]) (by simp only [Int.toNat_natCast,hrow2',hdt]) (by rw [a0u (by omega)];omega)
  clear hM hrow hrow2 hrow2' s1 hrs hdl hcb hcb' hbb gvd bvd bvd' bwd
  repeat' (first|refine zR0 hc Tryz.results271 ?_|(with_reducible first|exact trivial|refine j3 ?_ ?_|refine m8 (fun h=>?_)|fail)|((first|omega|(simp only [wn1,wn2,Int.toNat_natCast,and_true];omega));done))
  · obtain rfl:br=0:=by omega
    rw [Nat.mul_zero,Nat.add_zero] at hD
    have hND:val BB D < BB ^ (n+3):=by rw [←hlD];exact a03 BB D hDd
    obtain ⟨r1,r2⟩:=d8s (n:=n+2) hG.up hG.low hND hWB (by omega) (b:=0) (by rw [Nat.mul_zero,Nat.add_zero];exact hD) rfl
    have eD:=a99 hBB hDd hlD r2
    exact ⟨.inr rfl,j6 (show U q=U _ by rw [r1]),_,rfl,fun i _=>by rw [eD]⟩
  obtain rfl:br=1:=by omega
  have hdx:∀i,i < n+2→(rw3 o j D).getD (j+i) 0=(D.take (n+2)).getD i 0:=fun i hi=>by
    rw [c4m (by omega) (by omega)]
    simp only [List.getD_eq_getElem?_getD,List.getElem?_take,if_pos hi]
  have hxl:(D.take (n+2)).length=n+2:=by simp [hlD]
  have hxd:∀x∈D.take (n+2),x < BB:=fun x hx=>hDd x (List.mem_of_mem_take hx)
  have hlr:(rw3 o j D).length=m:=by rw [a0u (by omega),hm]
  generalize hR:rw3 o j D=R at *
  refine m9 (α:=List Nat×Nat) (fun p=>n5 [(0,.one (.own 0 1 j (n+3) cc)),(1,L (y7 v)),(5,N (n+2:Nat)),(6,U q),(17,U p.2),(156,N (n+2:Nat)),(157,N p.1.length)] [(0,a8c m (rw3 R j p.1))] 1)
    (fun p=>a5r BB (D.take (n+2)) v p.1 p.2) (fun p=>n+2 - p.1.length) ([],0) (a5r.nil _ _) ?_ ?_
  · refine zW0 ?_ <;> repeat' (with_reducible first|exact trivial|refine j3 ?_ ?_|refine t7 (fun i hi=>?_))
    all_goals first|rfl|(rw [b8w])
  rintro ⟨e,c'⟩ hA
  dsimp only at hA
  have hel:=hA.len
  have hcc:=hA.hc
  rw [hxl] at hel
  have gve:=r7 v e.length
  have hrow:e.length < n+2→(rw3 R j e).getD (j+e.length) 0=(D.take (n+2)).getD e.length 0:=fun hi=>by rw [b66 (by omega) (Nat.le_refl _),hdx _ hi]
  repeat' (first|(with_reducible first|refine j0 ?_|refine zwk ?_|refine i6 ?_|refine zgo ?_|refine zbn ?_|refine zge Tryz.results271 ?_|refine Sub.refl _|refine f9|refine a42 (out':=?_) ?_|refine a40 (y:=?_) ?_|refine a41 (eo':=?_) ?_)|(with_reducible refine zrs [32] hc ?_ ?_;focus (with_unfolding_all rfl))|(with_reducible refine zrm [32] hc mixed ?_ ?_;focus (with_unfolding_all rfl))|(with_reducible refine f6 ?_ ?_;focus (first|decide|omega))|(with_reducible first|refine zg2 ?_ ?_|refine c7s (b13 _ _ _ ?_) ?_ ?_|refine zbo ?_|refine zg3 ?_ (fun h=>?_) (fun h=>?_)|refine zg4 (fun h=>?_) (fun h=>?_)|fail)|((first|omega|(simp only [wn1,wn2,Int.toNat_natCast,and_true];omega));done))
  · refine ⟨(_,_),a5r.step hBo hA hxd hv (by omega),?_,?_⟩
    · simp only [List.length_append,List.length_singleton];omega
    · have hrow':=hrow (by omega)
      refine zW0 ?_ <;> repeat' (with_reducible first|exact trivial|refine j3 ?_ ?_|refine t7 (fun i hi=>?_))
      all_goals first|(rw [hrow',gve];simp only [BB];omega)|skip
      all_goals
        rw [←a4s (by omega)]
        exact a06 _ rfl (by rw [hrow',gve];simp only [BB];omega) (by rw [a0u (by omega)];omega)
  have hen:e.length=n+2:=by omega
  have hAe:=hA.eq
  rw [hen,List.take_of_length_le (by omega:(D.take (n+2)).length≤n+2),List.take_of_length_le (by omega:v.length≤n+2),hVv] at hAe
  have hdt':dt < BB:=by rw [←htop];exact r5 hBB hDd _
  have hdtp:D.getD (n+2) 0=dt:=htop
  obtain ⟨r1,r2,r3⟩:=d3h (n:=n+2) (v:=v) hBo hDd hA.lt hlD hen rfl hWB hVB hVp htop hD hG.low hAe
  have hEl:(e++ [(dt+c')%BB]).length=n+3:=by simp [hen]
  have eE:=a99 hBB (a2d hA.lt (Nat.mod_lt _ hBB)) hEl r2
  have hrD:(rw3 R j e).getD (j+(n+2)) 0=dt:=by
    rw [b66 (by omega) (by omega),←hR,c4m (by omega) (by omega),htop]
  have hrs:=a4s (o:=R) (j:=j) (d:=e) (by omega) ((dt+c')%BB)
  have hrr:rw3 R j (e++ [(dt+c')%BB])=rw3 o j (e++ [(dt+c')%BB]):=by rw [←hR];exact d1c (by omega) (by omega)
  repeat' (first|refine zR0 hc Tryz.results271 ?_|(with_reducible first|exact trivial|refine j3 ?_ ?_|refine m8 (fun h=>?_)|fail)|((first|omega|(simp only [wn1,wn2,Int.toNat_natCast,and_true];omega));done))
  refine ⟨.inr rfl,j6 ?_,_,rfl,fun i _=>?_⟩
  · show U _=U _
    rw [←r1,IntKind.wrap_u64];congr 3;omega
  · rw [eE,←hrr,←hrs]
    exact a06 _ (by rw [hen]) (by rw [hrD,IntKind.wrap_u64];simp only [BB];omega) (by rw [a0u (by omega)];omega)
theorem e1e (o v:List Nat) (j n m cc:Nat) (ho:∀d∈o,d < BB) (hv:∀d∈v,d < BB) (hn:v.length=n+2) (hm:o.length=m) (hj:j+(n+3)≤m) (lo:m≤4000000000000) (hv1:0 < v.getD (n+1) 0) (hUV:val BB ((o.drop j).take (n+3)) < BB*val BB v) :
    b0v Tryz.prog G 271 (a8c m o) [.one (.own 0 1 j (n+3) cc),L (y7 v)] (U (val BB ((o.drop j).take (n+3)) / val BB v:Nat)) (a8c m (rw3 o j (a2p BB (n+3) (val BB ((o.drop j).take (n+3))%val BB v)))):=c2r (d76 o v j n m cc ho hv hn hm hj lo hv1 hUV)
end Go.Proofs
end
section
set_option maxHeartbeats 8000000
set_option maxRecDepth 100000
namespace Go.Proofs
open Go.Ax
theorem d8c (x:List Int) (l:List Nat) (hl:l.length≤4611686018427387904) (e:x=y7 l):Ax.Pure Tryz.prog G 268 [L x] (L (y7 (a04 l))):=e ▸ b08 l hl
theorem b06 (a b:List Nat) (ha:Dig BB a) (hb:Dig BB b) (hb0:b≠[]) (la:a.length≤1000000000000) (lb:b.length≤1000000000000) :
    Ax.Pure Tryz.prog G 244 [L (y7 a),L (y7 b)] (.tup [L (y7 (f7 BB (val BB a / val BB b))),L (y7 (f7 BB (val BB a%val BB b)))]):=by
  have la':=m5 a
  have lb':=m5 b
  have hbl:1≤b.length:=by cases b with
    | nil=>exact absurd rfl hb0
    | cons _ _=>simp
  have hbp:=Dig.pos (by decide) hb hb0
  have hBB:0 < BB:=by decide
  refine r8 Tryz.func244 rfl Tryz.ntmps244 ?_
  intro w0 E0 hc
  repeat' (first|refine zR0 hc Tryz.results244 ?_|(with_reducible first|exact trivial|refine j3 ?_ ?_|refine m8 (fun h=>?_)|refine c9 (a3b _ _ ?_ ?_ ?_) ?_ ?_|fail)|((first|exact ha|exact hb|omega);done))
  · -- a < b
    have hlt:val BB a < val BB b:=by
      unfold a5v at h
      split at h
      · assumption
      · split at h <;> omega
    rw [Nat.div_eq_of_lt hlt,Nat.mod_eq_of_lt hlt,a9e,b4v (by decide) ha]
    exact a0w c4y (Sub.refl _)
  · simp only [Bool.and_self,true_and];omega
  · have hb1:b.length=1:=by omega
    have hvb:val BB b=b.getD 0 0:=by
      match b,hb1 with
      | [x],_=>simp [val]
    rw [hvb] at hbp ⊢
    have gb:=r7 b 0
    have bb:=r5 hBB hb.lt 0
    generalize hb0':b.getD 0 0=b0 at *
    have bb':b0 < 18446744073709551616:=bb
    refine m9 (α:=Nat×List Nat×Nat) (fun p=>n5 [(0,L (y7 a)),(1,L (y7 b)),(6,.one (.own 0 1 0 a.length a.length)),(7,U p.2.2),(8,N ((p.1:Int) - 1))] [(0,a8c a.length p.2.1)] 1)
      (fun p=>D1 BB a b0 p.2.1 p.1 p.2.2) (fun p=>p.1) (a.length,List.replicate a.length 0,0) (D1.start hBB a hbp) ?_ ?_
    · refine zW0 ?_ <;> repeat' (with_reducible first|exact trivial|refine j3 ?_ ?_|refine t7 (fun i hi=>?_))
      all_goals first|rfl|(rw [m5,w64 (by omega) (by omega)])|skip
      all_goals first|rfl|(rw [List.getD_eq_getElem?_getD,List.getElem?_replicate];split <;> rfl)
    · rintro ⟨k,o,rest⟩ hD
      dsimp only at hD
      have hk:=hD.hk
      have hr:=hD.hr
      have hl:=hD.len
      have hr':rest < 18446744073709551616:=by omega
      have ga:=r7 a (k - 1)
      have ba:=r5 hBB ha.lt (k - 1)
      have ba':a.getD (k - 1) 0 < 18446744073709551616:=ba
      have wk:0 < k→((k:Int) - 1).toNat=k - 1:=fun h=>by omega
      repeat' (first|(with_reducible first|refine j0 ?_|refine zwk ?_|refine i6 ?_|refine zgo ?_|refine zbn ?_|refine zge Tryz.results244 ?_|refine Sub.refl _|refine f9|refine a42 (out':=?_) ?_|refine a40 (y:=?_) ?_|refine a41 (eo':=?_) ?_)|(with_reducible refine zrs [10] hc ?_ ?_;focus (with_unfolding_all rfl))|(with_reducible refine zrm [10] hc mixed ?_ ?_;focus (with_unfolding_all rfl))|(with_reducible refine f6 ?_ ?_;focus (first|decide|omega))|(with_reducible first|refine zg2 ?_ ?_|refine c9 (d4z _ _ _ ?_) ?_ ?_|refine zbo ?_|refine zg3 ?_ (fun h=>?_) (fun h=>?_)|refine zg4 (fun h=>?_) (fun h=>?_)|fail)|((first|omega|(rw [wk (by omega),ga,gb];omega));done))
      · have hst:=D1.step (k:=k - 1) (by rw [Nat.sub_add_cancel (by omega)];exact hD) ha.lt
        have i1:((rest:Int)*18446744073709551616+(y7 a).getD ((k:Int) - 1).toNat 0) / (y7 b).getD 0 0=(((rest*BB+a.getD (k - 1) 0) / b0:Nat):Int):=by
          rw [wk (by omega),ga,gb,Int.natCast_ediv,Int.natCast_add,Int.natCast_mul];rfl
        have i2:((rest:Int)*18446744073709551616+(y7 a).getD ((k:Int) - 1).toNat 0)%(y7 b).getD 0 0=(((rest*BB+a.getD (k - 1) 0)%b0:Nat):Int):=by
          rw [wk (by omega),ga,gb,Int.natCast_emod,Int.natCast_add,Int.natCast_mul];rfl
        refine ⟨(k - 1,_,_),hst.2,by dsimp only;omega,?_⟩
        refine zW0 ?_ <;> repeat' (with_reducible first|exact trivial|refine j3 ?_ ?_|refine t7 (fun i hi=>?_))
        all_goals first|exact i2|(rw [w64 (by omega) (by omega)];omega)|skip
        exact a06 _ (by rw [wk (by omega),Nat.zero_add]) i1 (by omega)
      · obtain rfl:k=0:=by omega
        obtain ⟨r1,r2⟩:=hD.done
        refine a9w hc 0 6 a.length .u64 (y7 o) [(7,U rest)] [] 1 [(7,U rest)] [] ?_ (Nat.le_refl _) (by simp [hl]) rfl rfl (fun _ h=>by cases h) ?_
        · refine zW0 ?_ <;> repeat' (with_reducible first|exact trivial|refine j3 ?_ ?_|refine t7 (fun i hi=>?_))
          rw [r7]
        · have hrest:∀d∈[rest],d < BB:=by simp;omega
          repeat' (first|refine zR0 hc Tryz.results244 ?_|(with_reducible first|exact trivial|refine j3 ?_ ?_|refine m8 (fun h=>?_)|refine c9 (b08 _ ?_) ?_ ?_|fail)|(omega;done))
          refine a2v a1u (b08 [rest] (show 1≤4611686018427387904 by decide)) ⟨a4v rfl (fun i hi=>?_),trivial⟩ ?_ ?_
          · obtain rfl:i=0:=by omega
            rfl
          · exact ⟨⟨by decide,by decide,rfl,rfl,by decide⟩,trivial⟩
          repeat' (first|refine zR0 hc Tryz.results244 ?_|(with_reducible first|exact trivial|refine j3 ?_ ?_|refine m8 (fun h=>?_)|fail)|(omega;done))
          refine a0w (j6 ?_) (j6 ?_)
          · rw [a0r (by decide) hD.lt,r1]
          · rw [a0r (by decide) hrest];simp only [val,Nat.mul_zero,Nat.add_zero];rw [r2]
  rename_i h0
  have hle:val BB b≤val BB a:=by
    unfold a5v at h0
    rcases Nat.lt_or_ge (val BB a) (val BB b) with h1|h1
    · rw [if_pos h1] at h0;omega
    · exact h1
  have hlen:b.length≤a.length:=by
    rcases Nat.lt_or_ge a.length b.length with h1|h1
    · have:=a93 (by decide) ha hb h1;omega
    · exact h1
  obtain ⟨n,hn⟩:∃n,b.length=n+2:=⟨b.length - 2,by omega⟩
  obtain ⟨s1,s2,s3⟩:=e1y hn hb
  have gb:=r7 b (n+1)
  have btop:=r5 hBB hb.lt (n+1)
  have btop':b.getD (n+1) 0 < 18446744073709551616:=btop
  have wb:(IntKind.i64.wrap (↑(y7 b).length - 1)).toNat=n+1:=by rw [IntKind.wrap_i64];omega
  generalize hs:64 - bl (b.getD (n+1) 0)=s at *
  repeat' (first|(with_reducible first|refine j0 ?_|refine zwk ?_|refine i6 ?_|refine zgo ?_|refine zbn ?_|refine zge Tryz.results244 ?_|refine Sub.refl _|refine f9|refine a42 (out':=?_) ?_|refine a40 (y:=?_) ?_|refine a41 (eo':=?_) ?_)|(with_reducible refine zrs [12] hc ?_ ?_;focus (with_unfolding_all rfl))|(with_reducible refine zrm [12] hc mixed ?_ ?_;focus (with_unfolding_all rfl))|(with_reducible refine f6 ?_ ?_;focus (first|decide|omega))|(with_reducible first|refine zg2 ?_ ?_|refine c9 (b4n _ ?_) ?_ ?_|refine zbo ?_|refine zg3 ?_ (fun h=>?_) (fun h=>?_)|refine zg4 (fun h=>?_) (fun h=>?_)|fail)|((first|omega|(rw [wb,gb];omega));done))
  refine m7 (st':=n5 [(0,L (y7 a)),(1,L (y7 b)),(9,N s)] [] 0) ?_ ?_
  · refine zW0 ?_ <;> repeat' (with_reducible first|exact trivial|refine j3 ?_ ?_|refine t7 (fun i hi=>?_))
    all_goals (rw [wb,gb,Int.toNat_natCast,hs])
  repeat' (first|(with_reducible first|refine j0 ?_|refine zwk ?_|refine i6 ?_|refine zgo ?_|refine zbn ?_|refine zge Tryz.results244 ?_|refine Sub.refl _|refine f9|refine a42 (out':=?_) ?_|refine a40 (y:=?_) ?_|refine a41 (eo':=?_) ?_)|(with_reducible refine zrs [13] hc ?_ ?_;focus (with_unfolding_all rfl))|(with_reducible refine zrm [13] hc mixed ?_ ?_;focus (with_unfolding_all rfl))|(with_reducible refine f6 ?_ ?_;focus (first|decide|omega))|(with_reducible first|refine zg2 ?_ ?_|refine c9 (d2q _ _ ?_ ?_ ?_) ?_ ?_|refine c9 (b08 _ ?_) ?_ ?_|refine zbo ?_|refine zg3 ?_ (fun h=>?_) (fun h=>?_)|refine zg4 (fun h=>?_) (fun h=>?_)|fail)|((first|exact hb.lt|omega|(rw [a1a];omega));done))
  have hV:a04 (a2p BB (b.length+1) (val BB b*2 ^ s))=f7 BB (val BB b*2 ^ s):=by
    rw [a0r (by decide) (a7q hBB _ _),a9f,Nat.mod_eq_of_lt]
    rw [hn]
    exact Nat.lt_of_lt_of_le s2 (Nat.pow_le_pow_right hBB (by omega))
  have hpw:BB ^ (n+1)≤9223372036854775808*BB ^ (n+1):=by
    have:=Nat.mul_le_mul_right (BB ^ (n+1)) (show 1≤9223372036854775808 by decide)
    rwa [Nat.one_mul] at this
  have hvl:(f7 BB (val BB b*2 ^ s)).length=n+2:=d5w (Nat.le_trans hpw s3) s2
  have hvd:=j5 (B:=BB) (by decide) (val BB b*2 ^ s)
  have hvv:=j8 (B:=BB) (by decide) (val BB b*2 ^ s)
  have hvt:=d9s hvl hvd
  have hpV:0 < val BB b*2 ^ s:=Nat.mul_pos hbp (Nat.two_pow_pos s)
  generalize hv:f7 BB (val BB b*2 ^ s)=v at *
  refine m7 (st':=n5 [(0,L (y7 a)),(9,N s),(10,L (y7 v))] [] 0) ?_ ?_
  · refine zW0 ?_ <;> repeat' (with_reducible first|exact trivial|refine j3 ?_ ?_|refine t7 (fun i hi=>?_))
    rw [hV]
    exact Sub.refl _
  rw [←hvv] at s2 s3 hpV
  have lv':=m5 v
  have wq:(IntKind.i64.wrap (IntKind.i64.wrap (↑(y7 a).length - ↑(y7 v).length)+1)).toNat=a.length - (n+2)+1:=by rw [IntKind.wrap_i64,IntKind.wrap_i64];omega
  have wj:IntKind.i64.wrap (↑(y7 a).length - ↑(y7 v).length)=((a.length - (n+2):Nat):Int):=by rw [IntKind.wrap_i64];omega
  have wj1:IntKind.i64.wrap (((a.length - (n+2):Nat):Int)+1)=((a.length - (n+2)+1:Nat):Int):=by rw [IntKind.wrap_i64];omega
  repeat' (first|refine zR0 hc Tryz.results244 ?_|(with_reducible first|exact trivial|refine j3 ?_ ?_|refine m8 (fun h=>?_)|refine zocn (c1x _ _ ?_ ?_ ?_) ?_ ?_|fail)|((first|exact ha.lt|omega|(simp only [wj,wj1,Bool.and_self,true_and];omega));done))
  have hAB:=a03 BB a ha.lt
  have hst:=b0u.start hAB s1 s3 (by omega:n+2≤a.length)
  refine m9 (α:=Nat×List Nat×List Nat) (fun p=>n5 [(9,N s),(10,L (y7 v)),(11,.one (.own 0 1 0 (a.length+1) (a.length+1))),(12,N (n+2:Nat)),(13,.one (.own 1 1 0 (a.length - (n+2)+1) (a.length - (n+2)+1))),(14,N ((p.1:Int) - 1))] [(0,a8c (a.length+1) p.2.1),(1,a8c (a.length - (n+2)+1) p.2.2)] 2)
    (fun p=>p.1≤a.length - (n+2)+1∧p.2.1.length=a.length+1∧p.2.2.length=a.length - (n+2)+1∧b0u BB (val BB a*2 ^ s) (val BB v) (n+2) p.2.1 p.2.2 p.1) (fun p=>p.1) (a.length - (n+2)+1,a2p BB (a.length+1) (val BB a*2 ^ s),List.replicate (a.length - (n+2)+1) 0) ⟨Nat.le_refl _,a1a _ _ _,by simp,hst⟩ ?_ ?_
  · refine zW0 ?_ <;> repeat' (with_reducible first|exact trivial|refine j3 ?_ ?_|refine t7 (fun i hi=>?_))
    all_goals first|rfl|(rw [lv',hvl])|(rw [wj];omega)|(rw [wq])|skip
    rw [List.getD_eq_getElem?_getD,List.getElem?_replicate]
    split <;> rfl
  · rintro ⟨k,u,q⟩ ⟨hk,hul,hql,hD⟩
    dsimp only at hk hul hql hD
    have wk1:0 < k→IntKind.i64.wrap (IntKind.i64.wrap (((k:Int) - 1)+((n+2:Nat):Int))+1)=((k - 1+(n+3):Nat):Int):=fun h=>by rw [IntKind.wrap_i64,IntKind.wrap_i64];omega
    have wk2:0 < k→((k:Int) - 1).toNat=k - 1:=fun h=>by omega
    have wk3:0 < k→IntKind.i64.wrap ((k:Int) - 1 - 1)=((k - 1:Nat):Int) - 1:=fun h=>by rw [IntKind.wrap_i64];omega
    repeat' (first|(with_reducible first|refine j0 ?_|refine zwk ?_|refine i6 ?_|refine zgo ?_|refine zbn ?_|refine zge Tryz.results244 ?_|refine Sub.refl _|refine f9|refine a42 (out':=?_) ?_|refine a40 (y:=?_) ?_|refine a41 (eo':=?_) ?_)|(with_reducible refine zrs [20] hc ?_ ?_;focus (with_unfolding_all rfl))|(with_reducible refine zrm [20] hc mixed ?_ ?_;focus (with_unfolding_all rfl))|(with_reducible refine f6 ?_ ?_;focus (first|decide|omega))|(with_reducible first|refine zg2 ?_ ?_|refine zbo ?_|refine zg3 ?_ (fun h=>?_) (fun h=>?_)|refine zg4 (fun h=>?_) (fun h=>?_)|fail)|((first|omega);done))
    · have hkp:0 < k:=by omega
      obtain ⟨j,rfl⟩:∃j,k=j+1:=⟨k - 1,by omega⟩
      have hstep:=hD.step hBB hpV s2
      have wk1':=wk1 hkp
      have wk2':=wk2 hkp
      have wk3':=wk3 hkp
      rw [Nat.add_sub_cancel] at wk1' wk2' wk3'
      refine b9z 0 a1u (e1e u v j n (a.length+1) (a.length+1 - j) hD.ltu hvd.lt hvl hul (by omega) (by omega) hvt hstep.1) ⟨j6 ?_,Sub.refl _,trivial⟩ rfl (Nat.zero_le _) ?_ ?_
      · show AV.one (i7.own 0 1 (0+(((j+1:Nat):Int) - 1).toNat) ((IntKind.i64.wrap (IntKind.i64.wrap ((((j+1:Nat):Int) - 1)+((n+2:Nat):Int))+1)).toNat - (((j+1:Nat):Int) - 1).toNat) (a.length+1 - (((j+1:Nat):Int) - 1).toNat))=_
        rw [wk1',wk2',Int.toNat_natCast,Nat.zero_add,show j+(n+3) - j=n+3 by omega]
        rfl
      · refine ⟨⟨rfl,by decide,by omega,?_,?_,?_⟩,⟨trivial,rfl⟩,⟨trivial,rfl⟩,trivial⟩
        · rw [wk1'];omega
        · rw [wk1'];omega
        · right;omega
      repeat' (first|(with_reducible first|refine j0 ?_|refine zwk ?_|refine i6 ?_|refine zgo ?_|refine zbn ?_|refine zge Tryz.results244 ?_|refine Sub.refl _|refine f9|refine a42 (out':=?_) ?_|refine a40 (y:=?_) ?_|refine a41 (eo':=?_) ?_)|(with_reducible refine zrs [20] hc ?_ ?_;focus (with_unfolding_all rfl))|(with_reducible refine zrm [20] hc mixed ?_ ?_;focus (with_unfolding_all rfl))|(with_reducible refine f6 ?_ ?_;focus (first|decide|omega))|(with_reducible first|refine zg2 ?_ ?_|refine zbo ?_|refine zg3 ?_ (fun h=>?_) (fun h=>?_)|refine zg4 (fun h=>?_) (fun h=>?_)|fail)|((first|omega);done))
      refine ⟨(j,_,_),⟨by dsimp only;omega,?_,?_,hstep.2.2⟩,by dsimp only;omega,?_⟩
      · exact (a0u (by rw [a1a];omega)).trans hul
      · rw [List.length_set];exact hql
      · refine zW0 ?_ <;> repeat' (with_reducible first|exact trivial|refine j3 ?_ ?_|refine t7 (fun i hi=>?_))
        all_goals first|exact wk3'|rfl|skip
        exact a06 _ (by rw [wk2',Nat.zero_add]) rfl (by omega)
    obtain rfl:k=0:=by omega
    obtain ⟨r1,r2⟩:=hD.done
    rw [hvv,Nat.mul_div_mul_right _ _ (Nat.two_pow_pos s)] at r1
    rw [hvv,Nat.mul_mod_mul_right] at r2
    have hMV:val BB a%val BB b < val BB b:=Nat.mod_lt _ hbp
    have hMB:val BB a%val BB b < BB ^ (n+2):=by
      have:=a03 BB b hb.lt
      rw [hn] at this;omega
    generalize hM:val BB a%val BB b=M at *
    have hu0:a2n (a.length+1) M s 0=u:=by rw [c9r];exact a99 hBB hD.ltu hul r2
    have hq:=hD.ltq
    clear hD wk1 wk2 wk3
    repeat' (first|refine zR0 hc Tryz.results244 ?_|(with_reducible first|exact trivial|refine j3 ?_ ?_|refine m8 (fun h=>?_)|fail)|(omega;done))
    refine m9 (α:=Nat) (fun i=>n5 [(9,N s),(11,.one (.own 0 1 0 (a.length+1) (a.length+1))),(12,N (n+2:Nat)),(13,.one (.own 1 1 0 (a.length - (n+2)+1) (a.length - (n+2)+1))),(96,N (n+2:Nat)),(97,N i)] [(0,a8c (a.length+1) (a2n (a.length+1) M s i)),(1,a8c (a.length - (n+2)+1) q)] 2)
      (fun i=>i≤n+2) (fun i=>n+2 - i) 0 (Nat.zero_le _) ?_ ?_
    · refine zW0 ?_ <;> repeat' (with_reducible first|exact trivial|refine j3 ?_ ?_|refine t7 (fun i hi=>?_))
      all_goals first|rfl|(rw [hu0])
    · intro i hi
      have wi:IntKind.i64.wrap ((i:Int)+1)=((i+1:Nat):Int):=by rw [IntKind.wrap_i64];omega
      have ws:IntKind.i64.wrap (64 - (s:Int))=((64 - s:Nat):Int):=by rw [IntKind.wrap_i64];omega
      have hul2:=b2m (m:=a.length+1) (M:=M) (s:=s) (i:=i) (by omega)
      have hgi:=b7n (m:=a.length+1) (M:=M) (s:=s) (i:=i) (by omega)
      obtain ⟨t1,t2,t3⟩:=d9t (X:=M*2 ^ s / BB ^ i) s1
      rw [d3d,Nat.div_div_eq_div_mul,←Nat.pow_succ] at t3
      rw [Nat.div_div_eq_div_mul,←Nat.pow_succ] at t2
      repeat' (first|(with_reducible first|refine j0 ?_|refine zwk ?_|refine i6 ?_|refine zgo ?_|refine zbn ?_|refine zge Tryz.results244 ?_|refine Sub.refl _|refine f9|refine a42 (out':=?_) ?_|refine a40 (y:=?_) ?_|refine a41 (eo':=?_) ?_)|(with_reducible refine zrs [24,27] hc ?_ ?_;focus (with_unfolding_all rfl))|(with_reducible refine zrm [24,27] hc mixed ?_ ?_;focus (with_unfolding_all rfl))|(with_reducible refine f6 ?_ ?_;focus (first|decide|omega))|(with_reducible first|refine zg2 ?_ ?_|refine zbo ?_|refine zg3 ?_ (fun h=>?_) (fun h=>?_)|refine zg4 (fun h=>?_) (fun h=>?_)|fail)|((first|omega|(simp only [wi,ws,and_true];omega));done))
      · have hi2:i < n+2:=by omega
        have g1:=hgi i
        rw [if_neg (by omega),if_pos (by omega)] at g1
        have g2:=hgi (i+1)
        rw [if_neg (by omega),if_pos (by omega)] at g2
        have e1:=c6e ((a2n (a.length+1) M s i).getD i 0) s (s:Int) (by simp) (by omega)
        rw [Int.toNat_natCast] at e1
        refine m7 (st':=n5 [(9,N s),(11,.one (.own 0 1 0 (a.length+1) (a.length+1))),(12,N (n+2:Nat)),(13,.one (.own 1 1 0 (a.length - (n+2)+1) (a.length - (n+2)+1))),(15,N i),(96,N (n+2:Nat)),(97,N i)] [(0,a8c (a.length+1) ((a2n (a.length+1) M s i).set i (M*2 ^ s / BB ^ i%BB / 2 ^ s))),(1,a8c (a.length - (n+2)+1) q)] 2) ?_ ?_
        · clear hi
          refine zW0 ?_ <;> repeat' (with_reducible first|exact trivial|refine j3 ?_ ?_|refine t7 (fun i hi=>?_))
          all_goals first|exact a06 _ (Nat.zero_add _) (by rw [Nat.zero_add,e1,g1]) (by omega)|rfl
        repeat' (first|(with_reducible first|refine j0 ?_|refine zwk ?_|refine i6 ?_|refine zgo ?_|refine zbn ?_|refine zge Tryz.results244 ?_|refine Sub.refl _|refine f9|refine a42 (out':=?_) ?_|refine a40 (y:=?_) ?_|refine a41 (eo':=?_) ?_)|(with_reducible refine zrs [27] hc ?_ ?_;focus (with_unfolding_all rfl))|(with_reducible refine zrm [27] hc mixed ?_ ?_;focus (with_unfolding_all rfl))|(with_reducible refine f6 ?_ ?_;focus (first|decide|omega))|(with_reducible first|refine zg2 ?_ ?_|refine zbo ?_|refine zg3 ?_ (fun h=>?_) (fun h=>?_)|refine zg4 (fun h=>?_) (fun h=>?_)|fail)|((first|omega|(simp only [wi,ws,and_true];omega));done))
        · have hsp:0 < s:=by omega
          have o1:((a2n (a.length+1) M s i).set i (M*2 ^ s / BB ^ i%BB / 2 ^ s)).getD i 0=M*2 ^ s / BB ^ i%BB / 2 ^ s:=by rw [a2g _ _ (by omega),if_pos rfl]
          have o2:((a2n (a.length+1) M s i).set i (M*2 ^ s / BB ^ i%BB / 2 ^ s)).getD (i+1) 0=M*2 ^ s / BB ^ (i+1)%BB:=by rw [a2g _ _ (by omega),if_neg (by omega),g2]
          have hset:((a2n (a.length+1) M s i).set i (M*2 ^ s / BB ^ i%BB / 2 ^ s)).set i (M / BB ^ i%BB)=a2n (a.length+1) M s (i+1):=by rw [List.set_set,c2p (by omega)]
          have e2:=d68 (M*2 ^ s / BB ^ (i+1)%BB) (64 - s) (IntKind.i64.wrap (64 - (s:Int))) (by rw [ws];rfl) (by omega)
          have e3:=c8u t1 t2 (Nat.lt_of_le_of_lt (Nat.div_le_self _ _) (Nat.mod_lt _ (by decide))) (Nat.mod_lt _ (by decide))
          refine ⟨i+1,by omega,by omega,?_⟩
          clear hi
          refine zW0 ?_ <;> repeat' (with_reducible first|exact trivial|refine j3 ?_ ?_|refine t7 (fun i hi=>?_))
          all_goals first|exact wi|rfl|skip
          rw [←hset]
          refine a06 _ (Nat.zero_add _) ?_ (by rw [List.length_set];omega)
          rw [Nat.zero_add,Nat.zero_add,wi,Int.toNat_natCast,o1,o2,e2,←t3]
          exact e3
        · obtain rfl:s=0:=by omega
          refine ⟨i+1,by omega,by omega,?_⟩
          have hset:(a2n (a.length+1) M 0 i).set i (M*2 ^ 0 / BB ^ i%BB / 2 ^ 0)=a2n (a.length+1) M 0 (i+1):=by
            rw [←c2p (by omega),Nat.pow_zero,Nat.mul_one,Nat.div_one]
          clear hi
          refine zW0 ?_ <;> repeat' (with_reducible first|exact trivial|refine j3 ?_ ?_|refine t7 (fun i hi=>?_))
          all_goals first|exact wi|rfl|(rw [hset])
      · obtain rfl:i=n+2:=by omega
        refine a9w hc 1 13 (a.length - (n+2)+1) .u64 (y7 q) [(11,.one (.own 0 1 0 (a.length+1) (a.length+1))),(12,N (n+2:Nat))] [(0,a8c (a.length+1) (a2n (a.length+1) M s (n+2)))] 2 [(11,.one (.own 0 1 0 (a.length+1) (a.length+1))),(12,N (n+2:Nat))] [(0,a8c (a.length+1) (a2n (a.length+1) M s (n+2)))] ?_ (Nat.zero_le _) (by rw [m5];exact hql) rfl rfl (by simp) ?_
        · clear hi
          refine zW0 ?_ <;> repeat' (with_reducible first|exact trivial|refine j3 ?_ ?_|refine t7 (fun i hi=>?_))
          all_goals first|rfl|(rw [r7])
        refine a9w hc 0 11 (a.length+1) .u64 (y7 (a2n (a.length+1) M s (n+2))) [(12,N (n+2:Nat)),(13,L (y7 q))] [] 2 [(12,N (n+2:Nat)),(13,L (y7 q))] [] ?_ (Nat.zero_le _) (by rw [m5];exact hul2) rfl rfl (fun _ h=>by cases h) ?_
        · clear hi
          refine zW0 ?_ <;> repeat' (with_reducible first|exact trivial|refine j3 ?_ ?_|refine t7 (fun i hi=>?_))
          all_goals first|rfl|(rw [r7])
        have lr:=m5 (a2n (a.length+1) M s (n+2))
        repeat' (first|refine zR0 hc Tryz.results244 ?_|(with_reducible first|exact trivial|refine j3 ?_ ?_|refine m8 (fun h=>?_)|refine c9 (b08 _ ?_) ?_ ?_|fail)|(omega;done))
        refine a2v a1u (d8c _ ((a2n (a.length+1) M s (n+2)).take (n+2)) (by rw [List.length_take];omega) ?_) (a6v.refl _) ?_ ?_
        · rw [List.drop_zero,Nat.sub_zero,c0p]
        · exact ⟨⟨by decide,by omega,by rw [lr,hul2];omega⟩,trivial⟩
        repeat' (first|refine zR0 hc Tryz.results244 ?_|(with_reducible first|exact trivial|refine j3 ?_ ?_|refine m8 (fun h=>?_)|fail)|(omega;done))
        refine a0w (j6 ?_) (j6 ?_)
        · rw [a0r (by decide) hq,r1]
        · rw [c9q (by omega) hMB]
end Go.Proofs
end
