/- Lemmas on the program and its library: part Z27. -/
import Derived.Test.YtoiejgkkcfkliaaGreatDoorZ25
set_option linter.unusedVariables false
set_option linter.unusedSimpArgs false
section
set_option maxHeartbeats 8000000
set_option maxRecDepth 100000
namespace Go.Proofs
open Go.Ax
theorem b7m {x:Int} {d:Nat} {g:Nat→List i7} (hg:g 0= [.v (.int .i64 x)]) (h:x=d):Ax.Sub (.one (.row 1 1 g)) (D [d]):=a4v rfl fun i hi=>by
  obtain rfl:i=0:=by omega
  rw [hg,h];rfl
theorem c6j {b:List Nat} (h:b.length=1):val BR b=b.getD 0 0:=by
  match b,h with
  | [x],_=>simp [val]
theorem b84 {c:Ctx} {st:St} {Q:Exit→St→Prop} {x x' y:Go.Code} {α:Type} {Q':Exit→St→Prop} (S:α→St) (I:α→Prop) (h:Wp c x (Nxt (Wp c x' (Nxt (fun st'=>∃j,I j∧a1r c.nb0 st' (S j)) Q)) (Nxt (fun st'=>∃j,I j∧a1r c.nb0 st' (S j)) Q)) st) (h2:∀i,I i→Wp c y Q' (S i)):Wp c x (Nxt (Wp c x' (Nxt (Wp c y Q') Q)) (Nxt (Wp c y Q') Q)) st:=by
  refine h.mono fun e st' q=>?_
  cases e with
  | normal=>exact a4j S I q h2
  | _=>exact q
theorem d75 {k:IntKind} {o:List Nat} {X:Int} {x p:Nat} (j:Nat) (hX:X=(x:Int)) (hp:p < o.length) :
    [i7.v (.int k (if j=p then X else ((o.getD j 0:Nat):Int)))]= [i7.v (.int k (((o.set p x).getD j 0:Nat):Int))]:=by
  have:=a06 (k:=k) (o:=o) (X:=X) (d:=x) (i:=p) j rfl hX hp
  rw [←this];split <;> rfl
theorem d4k {k:IntKind} {o:List Nat} {X Y:Int} {d p i top:Nat} (j:Nat) (hp:p=i) (hX:X=(d:Int)) (hi:i < o.length) (hne:i≠top) :
    (if j=p then [i7.v (.int k X)] else [i7.v (.int k (if j=top then Y else ((o.getD j 0:Nat):Int)))])= [i7.v (.int k (if j=top then Y else (((o.set i d).getD j 0:Nat):Int)))]:=by
  have:=a06 (k:=k) (o:=o) (X:=X) (d:=d) (i:=i) j hp hX hi
  by_cases h:j=top
  · rw [if_neg (by omega),if_pos h,if_pos h]
  · rw [if_neg h,if_neg h,this]
theorem d51 {B T u3 p Wl W v1 v2 Vl V:Nat} (e1:W=(T*B+u3)*p+Wl) (e2:V=(v1*B+v2)*p+Vl) (b1:Wl < p) (h3:u3 < B) (hv:0 < v1):W < (T / v1+1)*V:=by
  have h1:=Nat.div_add_mod T v1
  have h2:=Nat.mod_lt T hv
  have h4:T+1≤(T / v1+1)*v1:=by rw [Nat.add_mul,Nat.mul_comm (T / v1)];omega
  generalize T / v1+1=t at *
  have a1:(T*B+u3+1)*p≤(T+1)*B*p:=Nat.mul_le_mul_right _ (by rw [Nat.add_mul];omega)
  have a2:(T+1)*B*p≤t*v1*B*p:=Nat.mul_le_mul_right _ (Nat.mul_le_mul_right _ h4)
  have a3:t*(v1*B*p)≤t*V:=Nat.mul_le_mul_left _ (by rw [e2,Nat.add_mul];omega)
  rw [←Nat.mul_assoc,←Nat.mul_assoc] at a3
  rw [Nat.add_mul,Nat.one_mul] at a1
  omega
theorem a7s (a b:List Nat) (ha:Dig BR a) (hb:Dig BR b) (hb0:b≠[]) (la:a.length≤1000000000) (lb:b.length≤1000000000) :
    Ax.Pure Tryz.prog G 217 [D a,D b] (.tup [D (f7 BR (val BR a / val BR b)),D (f7 BR (val BR a%val BR b))]):=by
  have la':=m5 a
  have lb':=m5 b
  have hbl:1≤b.length:=by cases b with
    | nil=>exact absurd rfl hb0
    | cons _ _=>simp
  have hbp:=Dig.pos (by decide) hb hb0
  have hBB:0 < BR:=by decide
  have hBR:BR=1000000000:=rfl
  refine r8 Tryz.func217 rfl Tryz.ntmps217 ?_
  intro w0 E0 hc
  repeat' (first|(with_reducible first|refine j0 ?_|refine zwk ?_|refine i6 ?_|refine zgo ?_|refine zbn ?_|refine zge Tryz.results217 ?_|refine Sub.refl _|refine f9|refine w6 (out':=?_) ?_|refine u9 (y:=?_) ?_|refine w5 (eo':=?_) ?_)|(with_reducible refine zrs [4,6] hc ?_ ?_;focus (with_unfolding_all rfl))|(with_reducible refine zrm [4,6] hc mixed ?_ ?_;focus (with_unfolding_all rfl))|(with_reducible refine f6 ?_ ?_;focus (first|decide|omega))|(with_reducible first|refine zg2 ?_ ?_|refine c9 (d97 _ _ ?_ ?_ ?_) ?_ ?_|refine zbo ?_|refine zg3 ?_ (fun h=>?_) (fun h=>?_)|refine zg4 (fun h=>?_) (fun h=>?_)|fail)|((first|exact ha|exact hb|omega);done))
  · have hlt:val BR a < val BR b:=by
      unfold a5v at h
      split at h
      · assumption
      · split at h <;> omega
    rw [Nat.div_eq_of_lt hlt,Nat.mod_eq_of_lt hlt,a9e,b4v (by decide) ha]
    exact a0w c4y (Sub.refl _)
  · -- one digit
    have hb1:b.length=1:=by omega
    have hvb:=c6j hb1
    have gb:=r7 b 0
    have bb:=r5 hBB hb.lt 0
    have rb:val BR a%b.getD 0 0 < BR:=Nat.lt_trans (Nat.mod_lt _ (by omega)) bb
    rw [hvb] at hbp ⊢
    have c_dd:=b93 a (b.getD 0 0) ha.lt (by omega) hbp bb
    have c_tr:=b1n [val BR a%b.getD 0 0] (show 1≤4611686018427387904 by decide)
    rw [←gb] at c_dd
    repeat' (first|(with_reducible first|refine j0 ?_|refine zr0 hc ?_|refine zm0 hc ?_|refine zwk ?_|refine i6 ?_|refine zgo ?_|refine zbn ?_|refine zge Tryz.results217 ?_|refine Sub.refl _|refine f9|refine w6 (out':=?_) ?_|refine u9 (y:=?_) ?_|refine w5 (eo':=?_) ?_)|(with_reducible refine f6 ?_ ?_;focus (first|decide|omega))|(with_reducible first|refine zg2 ?_ ?_|refine c9 c_dd ?_ ?_|refine zbo ?_|refine zg3 ?_ (fun h=>?_) (fun h=>?_)|refine zg4 (fun h=>?_) (fun h=>?_)|fail)|(omega;done))
    refine a2v a1u c_tr ⟨b7m (x:=(val BR a%b.getD 0 0:Nat)) rfl rfl,trivial⟩ ?_ ?_
    · exact ⟨⟨by decide,by decide,rfl,rfl,by decide⟩,trivial⟩
    repeat' (first|(with_reducible first|refine j0 ?_|refine zr0 hc ?_|refine zm0 hc ?_|refine zwk ?_|refine i6 ?_|refine zgo ?_|refine zbn ?_|refine zge Tryz.results217 ?_|refine Sub.refl _|refine f9|refine w6 (out':=?_) ?_|refine u9 (y:=?_) ?_|refine w5 (eo':=?_) ?_)|(with_reducible refine f6 ?_ ?_;focus (first|decide|omega))|(with_reducible first|refine zg2 ?_ ?_|refine zbo ?_|refine zg3 ?_ (fun h=>?_) (fun h=>?_)|refine zg4 (fun h=>?_) (fun h=>?_)|fail)|(omega;done))
    refine a0w (Sub.refl _) (d1h ?_)
    rw [a0r (B:=BR) (by decide) (by simpa using rb)];simp [val]
  -- more digits
  rename_i h0
  have hle:val BR b≤val BR a:=by
    unfold a5v at h0
    rcases Nat.lt_or_ge (val BR a) (val BR b) with h1|h1
    · rw [if_pos h1] at h0;omega
    · exact h1
  have hlen:b.length≤a.length:=by
    rcases Nat.lt_or_ge a.length b.length with h1|h1
    · have:=a93 (by decide) ha hb h1;omega
    · exact h1
  obtain ⟨n,hn⟩:∃n,b.length=n+2:=⟨b.length - 2,by omega⟩
  obtain ⟨f1,f2,f3,f4,f5⟩:=d6r (B:=BR) (by decide) hn hb
  have gb:=r7 b (n+1)
  have btop:=r5 hBB hb.lt (n+1)
  have wb:IntKind.i64.wrap (((y7 b).length:Int) - 1)=((n+1:Nat):Int):=by rw [IntKind.wrap_i64];omega
  have wb1:IntKind.i64.wrap (((b.getD (n+1) 0:Nat):Int)+1)=((b.getD (n+1) 0+1:Nat):Int):=by rw [IntKind.wrap_i64];omega
  have hfd:IntKind.i64.wrap ((1000000000:Int).tdiv ((b.getD (n+1) 0+1:Nat):Int))=((BR / (b.getD (n+1) 0+1):Nat):Int):=by
    rw [show (1000000000:Int)=((BR:Nat):Int) from rfl,b78];exact d3p f2
  have hne:((b.getD (n+1) 0+1:Nat):Int)≠0:=by omega
  repeat' (first|(with_reducible first|refine j0 ?_|refine zwk ?_|refine i6 ?_|refine zgo ?_|refine zbn ?_|refine zge Tryz.results217 ?_|refine Sub.refl _|refine f9|refine w6 (out':=?_) ?_|refine u9 (y:=?_) ?_|refine w5 (eo':=?_) ?_)|(with_reducible refine zrs [7] hc ?_ ?_;focus (with_unfolding_all rfl))|(with_reducible refine zrm [7] hc mixed ?_ ?_;focus (with_unfolding_all rfl))|(with_reducible refine f6 ?_ ?_;focus (first|decide|omega))|(with_reducible first|refine zg2 ?_ ?_|refine zbo ?_|refine zg3 ?_ (fun h=>?_) (fun h=>?_)|refine zg4 (fun h=>?_) (fun h=>?_)|fail)|((first|omega|(refine And.intro ?_ rfl;rw [wb,Int.toNat_natCast,gb,wb1];exact hne));done))
  generalize hf:BR / (b.getD (n+1) 0+1)=f at *
  refine m7 (st':=n5 [(0,D a),(1,D b),(8,D [f])] [] 0) ?_ ?_
  · refine zW2 ?_ <;> repeat' (with_reducible first|exact trivial|refine j3 ?_ ?_|refine t7 (fun i hi=>?_))
    exact b7m rfl (by rw [wb,Int.toNat_natCast,gb,wb1,hfd])
  have hfl:∀d∈[f],d < BR:=by simpa using f2
  have hvf:val BR [f]=f:=by simp [val]
  have hv2:val BR b*f < BR ^ (n+2):=f3
  have hvp:0 < val BR b*f:=Nat.mul_pos hbp f1
  have hvlow:BR ^ (n+1)≤val BR b*f:=Nat.le_trans f5 (Nat.le_mul_of_pos_right _ f1)
  have hvl:(f7 BR (val BR b*f)).length=n+2:=d2c (by decide) hvlow hv2
  have hvd:=j5 (B:=BR) (by decide) (val BR b*f)
  have hvv:=j8 (B:=BR) (by decide) (val BR b*f)
  have huv:=j8 (B:=BR) (by decide) (val BR a*f)
  have hud:=j5 (B:=BR) (by decide) (val BR a*f)
  have hAB:=a03 BR a ha.lt
  have hub:val BR a*f < BR ^ (a.length+1):=by
    rw [Nat.pow_succ]
    exact Nat.mul_lt_mul'' hAB f2
  have hul:=a3d (B:=BR) (by decide) hub
  have hup:0 < (f7 BR (val BR a*f)).length:=by
    rcases Nat.eq_zero_or_pos (f7 BR (val BR a*f)).length with e|e
    · rw [List.length_eq_zero_iff] at e
      rw [e] at huv
      have:0 < val BR a*f:=Nat.mul_pos (by omega) f1
      rw [←huv] at this
      exact absurd this (by simp [val])
    · exact e
  have l1: [f].length≤1000000000:=by simp
  repeat' (first|(with_reducible first|refine j0 ?_|refine zwk ?_|refine i6 ?_|refine zgo ?_|refine zbn ?_|refine zge Tryz.results217 ?_|refine Sub.refl _|refine f9|refine w6 (out':=?_) ?_|refine u9 (y:=?_) ?_|refine w5 (eo':=?_) ?_)|(with_reducible refine zrs [9] hc ?_ ?_;focus (with_unfolding_all rfl))|(with_reducible refine zrm [9] hc mixed ?_ ?_;focus (with_unfolding_all rfl))|(with_reducible refine f6 ?_ ?_;focus (first|decide|omega))|(with_reducible first|refine zg2 ?_ ?_|refine c9 (b1m _ _ ?_ ?_ ?_ ?_) ?_ ?_|refine zbo ?_|refine zg3 ?_ (fun h=>?_) (fun h=>?_)|refine zg4 (fun h=>?_) (fun h=>?_)|fail)|((first|exact hb.lt|exact hfl|exact l1|omega);done))
  rw [hvf]
  generalize hv:f7 BR (val BR b*f)=v at *
  have lv':=m5 v
  refine m7 (st':=n5 [(0,D a),(8,D [f]),(9,D v),(10,N (n+2:Nat))] [] 0) ?_ ?_
  · refine zW2 ?_ <;> repeat' (with_reducible first|exact trivial|refine j3 ?_ ?_|refine t7 (fun i hi=>?_))
  repeat' (first|(with_reducible first|refine j0 ?_|refine zr0 hc ?_|refine zm0 hc ?_|refine zwk ?_|refine zgo ?_|refine zbn ?_|refine zge Tryz.results217 ?_|refine Sub.refl _|refine f9|refine w6 (out':=?_) ?_|refine u9 (y:=?_) ?_|refine w5 (eo':=?_) ?_)|(with_reducible refine f6 ?_ ?_;focus (first|decide|omega))|(with_reducible first|refine zg2 ?_ ?_|refine c9 (b1m _ _ ?_ ?_ ?_ ?_) ?_ ?_|refine zbo ?_|refine zg3 ?_ (fun h=>?_) (fun h=>?_)|refine zg4 (fun h=>?_) (fun h=>?_)|fail)|((first|exact ha.lt|exact hfl|exact l1|omega);done))
  rw [hvf]
  generalize hU:f7 BR (val BR a*f)=U at *
  have lU:=m5 U
  refine b2f hc 0 0 0 U.length .i64 [] (y7 U) rfl rfl rfl (Sub.refl _) (by rw [←lU];exact c4x) (.inl ⟨rfl,rfl⟩) rfl lU hup (Nat.le_refl _) (by omega) ?_ ?_ (fun c1 hc1=>?_)
  · show (0+U.length)*8≤_
    omega
  · exact trivial
  repeat' (first|(with_reducible first|refine j0 ?_|refine zr0 hc ?_|refine zm0 hc ?_|refine zwk ?_|refine zgo ?_|refine zbn ?_|refine zge Tryz.results217 ?_|refine Sub.refl _|refine f9|refine w6 (out':=?_) ?_|refine u9 (y:=?_) ?_|refine w5 (eo':=?_) ?_)|(with_reducible refine f6 ?_ ?_;focus (first|decide|omega))|(with_reducible first|refine zg2 ?_ ?_|refine zbo ?_|refine zg3 ?_ (fun h=>?_) (fun h=>?_)|refine zg4 (fun h=>?_) (fun h=>?_)|fail)|(omega;done))
  refine m7 (st':=n5 [(0,D a),(8,D [f]),(9,D v),(10,N (n+2:Nat)),(11,.one (.gr 0 1 U.length c1))] [(0,⟨1,c1,a6k .i64 (y7 U),true⟩)] 1) ?_ ?_
  · refine zW2 ?_ <;> repeat' (with_reducible first|exact trivial|refine j3 ?_ ?_|refine t7 (fun i hi=>?_))
  repeat' (first|(with_reducible first|refine j0 ?_|refine zr0 hc ?_|refine zm0 hc ?_|refine zwk ?_|refine i6 ?_|refine zgo ?_|refine zbn ?_|refine zge Tryz.results217 ?_|refine Sub.refl _|refine f9|refine w6 (out':=?_) ?_|refine u9 (y:=?_) ?_|refine w5 (eo':=?_) ?_)|(with_reducible refine f6 ?_ ?_;focus (first|decide|omega))|(with_reducible first|refine zg2 ?_ ?_|refine zbo ?_|refine zg3 ?_ (fun h=>?_) (fun h=>?_)|refine zg4 (fun h=>?_) (fun h=>?_)|fail)|(omega;done))
  -- zeros a2o it
  refine m9 (α:=List Nat×Nat) (fun p=>n5 [(0,D a),(8,D [f]),(9,D v),(10,N (n+2:Nat)),(11,.one (.gr 0 1 p.1.length p.2))] [(0,⟨1,p.2,a6k .i64 (y7 p.1),true⟩)] 1)
    (fun p=>(∀d∈p.1,d < BR)∧val BR p.1=val BR a*f∧p.1.length≤a.length+1∧p.1.length≤p.2) (fun p=>a.length+1 - p.1.length) (U,c1) ⟨hud.lt,huv,hul,by dsimp only;omega⟩ ?_ ?_
  · refine zW2 ?_ <;> repeat' (with_reducible first|exact trivial|refine j3 ?_ ?_|refine t7 (fun i hi=>?_))
  clear hU huv hud hul hup lU hc1 c1
  rintro ⟨u,cc⟩ ⟨hu,huv,hul,hcc⟩
  dsimp only at hu huv hul hcc
  have lu:=m5 u
  have wa1:IntKind.i64.wrap (((y7 a).length:Int)+1)=((a.length+1:Nat):Int):=by rw [IntKind.wrap_i64];omega
  repeat' (first|(with_reducible first|refine j0 ?_|refine zwk ?_|refine i6 ?_|refine zgo ?_|refine zbn ?_|refine zge Tryz.results217 ?_|refine Sub.refl _|refine f9|refine w6 (out':=?_) ?_|refine u9 (y:=?_) ?_|refine w5 (eo':=?_) ?_)|(with_reducible refine zrs [12] hc ?_ ?_;focus (with_unfolding_all rfl))|(with_reducible refine zrm [12] hc mixed ?_ ?_;focus (with_unfolding_all rfl))|(with_reducible refine f6 ?_ ?_;focus (first|decide|omega))|(with_reducible first|refine zg2 ?_ ?_|apply c7r hc|apply b8a hc|refine a26 (fun cc_ hcc_=>?_)|exact b7p|refine zbo ?_|refine zg3 ?_ (fun h=>?_) (fun h=>?_)|refine zg4 (fun h=>?_) (fun h=>?_)|fail)|(exact Is.refl _)|(omega;done))
  · refine ⟨(u++ [0],cc_),⟨?_,?_,?_,?_⟩,?_,?_⟩
    · exact a2d hu hBB
    · rw [a12,Nat.mul_zero,Nat.add_zero];exact huv
    · rw [List.length_append,List.length_singleton];omega
    · rw [List.length_append,List.length_singleton];exact hcc_
    · simp only [List.length_append,List.length_singleton];omega
    · refine zW2 ?_ <;> repeat' (with_reducible first|exact trivial|refine j3 ?_ ?_|refine t7 (fun i hi=>?_))
      · rw [List.length_append,List.length_singleton]
      · rw [show (0:Int)=((0:Nat):Int) from rfl,a5y u (d:=0) rfl]
  have hul:u.length=a.length+1:=by omega
  refine m7 (st':=n5 [(0,D a),(8,D [f]),(9,D v),(10,N (n+2:Nat)),(11,.one (.own 0 1 0 (a.length+1) cc))] [(0,⟨1,a.length+1,fun k=> [.v (.int .i64 (u.getD k 0:Nat))],false⟩)] 1) ?_ ?_
  · refine zwa1 (l1:=?_) (h1:=?_) ?_ ?_
    · refine a2b trivial (a2b trivial (a2b trivial (a2b trivial (a2r (by simp [AV.cl,i7.cl]) ?_ trivial))))
      rw [←hul]
      exact c9m (by omega)
    · refine c5p rfl (by omega) (fun i hi=>⟨trivial,trivial⟩) (by omega) (fun i hi=>?_) trivial
      rw [b8v (by omega),r7]
  have wq:(IntKind.i64.wrap (((a.length+1:Nat):Int) - ((n+2:Nat):Int))).toNat=a.length+1 - (n+2):=by rw [IntKind.wrap_i64];omega
  have wq1:IntKind.i64.wrap (((a.length+1:Nat):Int) - ((n+2:Nat):Int))=((a.length+1 - (n+2):Nat):Int):=by rw [IntKind.wrap_i64];omega
  have wj:IntKind.i64.wrap (((a.length+1 - (n+2):Nat):Int) - 1)=((a.length+1 - (n+2):Nat):Int) - 1:=by rw [IntKind.wrap_i64];omega
  repeat' (first|(with_reducible first|refine j0 ?_|refine zr0 hc ?_|refine zm0 hc ?_|refine zwk ?_|refine i6 ?_|refine zgo ?_|refine zbn ?_|refine zge Tryz.results217 ?_|refine Sub.refl _|refine f9|refine w6 (out':=?_) ?_|refine u9 (y:=?_) ?_|refine w5 (eo':=?_) ?_)|(with_reducible refine f6 ?_ ?_;focus (first|decide|omega))|(with_reducible first|refine zg2 ?_ ?_|refine zbo ?_|refine zg3 ?_ (fun h=>?_) (fun h=>?_)|refine zg4 (fun h=>?_) (fun h=>?_)|fail)|((first|omega|(simp only [wq1,eq_self,true_and];omega));done))
  have hst:=d6s (B:=BR) (A:=val BR a) (f:=f) (V:=val BR v) (lb:=n) (by decide) f1 hAB (by rw [hvv];exact f4) hu hul huv (by omega:n+2≤a.length)
  refine m9 (α:=Nat×List Nat×List Nat) (fun p=>n5 [(0,D a),(8,D [f]),(9,D v),(10,N (n+2:Nat)),(11,.one (.own 0 1 0 (a.length+1) cc)),(12,.one (.own 1 1 0 (a.length+1 - (n+2)) (a.length+1 - (n+2)))),(13,N ((p.1:Int) - 1))] [(0,⟨1,a.length+1,fun k=> [.v (.int .i64 (p.2.1.getD k 0:Nat))],false⟩),(1,⟨1,a.length+1 - (n+2),fun k=> [.v (.int .i64 (p.2.2.getD k 0:Nat))],false⟩)] 2)
    (fun p=>p.1≤a.length+1 - (n+2)∧p.2.1.length=a.length+1∧p.2.2.length=a.length+1 - (n+2)∧b0u BR (val BR a*f) (val BR v) (n+2) p.2.1 p.2.2 p.1) (fun p=>p.1) (a.length+1 - (n+2),u,List.replicate (a.length+1 - (n+2)) 0) ⟨Nat.le_refl _,hul,by simp,hst⟩ ?_ ?_
  · refine zW2 ?_ <;> repeat' (with_reducible first|exact trivial|refine j3 ?_ ?_|refine t7 (fun i hi=>?_))
    all_goals first|rfl|(rw [wq1];omega)|(rw [wq])|skip
    rw [List.getD_eq_getElem?_getD,List.getElem?_replicate]
    split <;> rfl
  have hca:a.length+1≤cc:=by omega
  clear hst hu huv lu hcc
  clear hul
  rintro ⟨k,u,q⟩ ⟨hk,hul,hql,hD⟩
  dsimp only at hk hul hql hD
  have hV3:val BR v < BR ^ (n+2):=by rw [hvv];exact hv2
  have hVp:0 < val BR v:=by rw [hvv];exact hvp
  rcases k with _|j
  · obtain ⟨hq,hr⟩:=hD.done
    repeat' (first|(with_reducible first|refine j0 ?_|refine zwk ?_|refine i6 ?_|refine zgo ?_|refine zbn ?_|refine zge Tryz.results217 ?_|refine Sub.refl _|refine f9|refine w6 (out':=?_) ?_|refine u9 (y:=?_) ?_|refine w5 (eo':=?_) ?_)|(with_reducible refine zrs [40] hc ?_ ?_;focus (with_unfolding_all rfl))|(with_reducible refine zrm [40] hc mixed ?_ ?_;focus (with_unfolding_all rfl))|(with_reducible refine f6 ?_ ?_;focus (first|decide|omega))|(with_reducible first|refine zg2 ?_ ?_|refine zbo ?_|refine zg3 ?_ (fun h=>?_) (fun h=>?_)|refine zg4 (fun h=>?_) (fun h=>?_)|fail)|(omega;done))
    refine c9y hc 0 11 (a.length+1) cc hca .i64 (y7 u) [(8,D [f]),(10,N (n+2:Nat)),(12,.one (.own 1 1 0 (a.length+1 - (n+2)) (a.length+1 - (n+2))))] [(1,⟨1,a.length+1 - (n+2),fun k=> [.v (.int .i64 (q.getD k 0:Nat))],false⟩)] 2 [(8,D [f]),(10,N (n+2:Nat)),(12,.one (.own 1 1 0 (a.length+1 - (n+2)) (a.length+1 - (n+2))))] [(1,⟨1,a.length+1 - (n+2),fun k=> [.v (.int .i64 (q.getD k 0:Nat))],false⟩)] ?_ (Nat.le_refl _) (by simp [hul]) rfl rfl (fun p hp=>by rw [List.mem_singleton.1 hp];exact Nat.one_ne_zero) ?_
    · refine zW2 ?_ <;> repeat' (with_reducible first|exact trivial|refine j3 ?_ ?_|refine t7 (fun i hi=>?_))
      rw [r7]
    refine a9w hc 1 12 (a.length+1 - (n+2)) .i64 (y7 q) [(8,D [f]),(10,N (n+2:Nat)),(11,D u)] [] 2 [(8,D [f]),(10,N (n+2:Nat)),(11,D u)] [] ?_ (Nat.zero_le _) (by simp [hql]) rfl rfl (fun _ h=>by cases h) ?_
    · refine zW2 ?_ <;> repeat' (with_reducible first|exact trivial|refine j3 ?_ ?_|refine t7 (fun i hi=>?_))
      rw [r7]
    rw [hvv] at hq hr hVp hV3
    rw [Nat.mul_div_mul_right _ _ f1] at hq
    rw [Nat.mul_mod_mul_right] at hr
    have hul2:val BR u < BR ^ (n+2):=by
      rw [hr,←Nat.mul_mod_mul_right]
      exact Nat.lt_trans (Nat.mod_lt _ hVp) hV3
    have hut:val BR (u.take (n+2))=val BR u:=by
      have h1:=a2c BR (u.take (n+2)) (u.drop (n+2))
      rw [List.take_append_drop,List.length_take,Nat.min_eq_left (by omega)] at h1
      rcases Nat.eq_zero_or_pos (val BR (u.drop (n+2))) with e|e
      · rw [e] at h1;omega
      · have:=Nat.mul_le_mul_left (BR ^ (n+2)) e
        omega
    have hut2:=a0r (B:=BR) (by decide) (xs:=u.take (n+2)) fun x hx=>hD.ltu x (List.mem_of_mem_take hx)
    have hqt:=a0r (B:=BR) (by decide) (xs:=q) hD.ltq
    have c_tr:=b1n (u.take (n+2)) (by simp;omega)
    have c_tq:=b1n q (by omega)
    rw [hut2,hut,hr] at c_tr
    rw [hqt,hq] at c_tq
    have hrd:=j5 (B:=BR) (by decide) (val BR a%val BR b*f)
    have hul3:=hul2
    rw [hr] at hul3
    have hrl:(f7 BR (val BR a%val BR b*f)).length≤n+2:=a3d (B:=BR) (by decide) hul3
    have c_dd:=b93 (f7 BR (val BR a%val BR b*f)) f hrd.lt (by omega) f1 f2
    rw [j8 (B:=BR) (by decide),Nat.mul_div_cancel _ f1,show (f:Int)=(y7 [f]).getD 0 0 from rfl] at c_dd
    have lu:=m5 u
    repeat' (first|(with_reducible first|refine j0 ?_|refine zr0 hc ?_|refine zm0 hc ?_|refine zwk ?_|refine i6 ?_|refine zgo ?_|refine zbn ?_|refine zge Tryz.results217 ?_|refine Sub.refl _|refine f9|refine w6 (out':=?_) ?_|refine u9 (y:=?_) ?_|refine w5 (eo':=?_) ?_)|(with_reducible refine f6 ?_ ?_;focus (first|decide|omega))|(with_reducible first|refine zg2 ?_ ?_|refine zbo ?_|refine zg3 ?_ (fun h=>?_) (fun h=>?_)|refine zg4 (fun h=>?_) (fun h=>?_)|fail)|(omega;done))
    refine a2v a1u c_tr ⟨j6 (by simp [y7,List.map_take]),trivial⟩ ?_ ?_
    · exact ⟨⟨by decide,by omega,by omega⟩,trivial⟩
    repeat' (first|(with_reducible first|refine j0 ?_|refine zr0 hc ?_|refine zm0 hc ?_|refine zwk ?_|refine i6 ?_|refine zgo ?_|refine zbn ?_|refine zge Tryz.results217 ?_|refine Sub.refl _|refine f9|refine w6 (out':=?_) ?_|refine u9 (y:=?_) ?_|refine w5 (eo':=?_) ?_)|(with_reducible refine f6 ?_ ?_;focus (first|decide|omega))|(with_reducible first|refine zg2 ?_ ?_|refine c9 c_dd ?_ ?_|refine c9 c_tq ?_ ?_|refine zbo ?_|refine zg3 ?_ (fun h=>?_) (fun h=>?_)|refine zg4 (fun h=>?_) (fun h=>?_)|fail)|((first|omega|exact ⟨by decide,rfl,by decide,Int.zero_lt_one⟩);done))
  have ej:(((j+1:Nat):Int) - 1)=j:=by omega
  rw [ej]
  have hlu:=hD.len
  have hvt:0 < v.getD (n+1) 0:=by
    have:=Dig.pos (B:=BR) (by decide) hvd (by intro e;rw [e] at hvl;simp at hvl)
    have h:=hvd.last
    rw [List.getLast?_eq_getElem?,hvl,show n+2 - 1=n+1 by omega] at h
    rw [List.getD_eq_getElem?_getD]
    have hlt:n+1 < v.length:=by omega
    rw [List.getElem?_eq_getElem hlt] at h ⊢
    simp only [ne_eq,Option.some.injEq,Option.getD_some] at h ⊢
    omega
  have hwl:((u.drop j).take (n+3)).length=n+3:=by simp;omega
  have hwd:∀x∈(u.drop j).take (n+3),x < BR:=fun x hx=>hD.ltu x (List.mem_of_mem_drop (List.mem_of_mem_take hx))
  have go:∀i,i < n+3→((u.drop j).take (n+3)).getD i 0=u.getD (j+i) 0:=fun i hi=>by
    simp only [List.getD_eq_getElem?_getD,List.getElem?_take,if_pos hi,List.getElem?_drop]
  obtain ⟨s1,s2,s3⟩:=hD.step hBB hVp hV3
  have hKG:KG BR (val BR ((u.drop j).take (n+3))) (val BR v) (gF BR (v.getD (n+1) 0) (v.getD n 0) (u.getD (j+n) 0) ((u.getD (j+(n+2)) 0*BR+u.getD (j+(n+1)) 0) / v.getD (n+1) 0) ((u.getD (j+(n+2)) 0*BR+u.getD (j+(n+1)) 0)%v.getD (n+1) 0)):=by
    have e1:=c7p (B:=BR) (l:=(u.drop j).take (n+3)) (n:=n) hwl
    have e2:=c7o (B:=BR) (l:=v) (n:=n) hvl
    rw [go _ (by omega),go _ (by omega),go _ (by omega),Nat.add_zero] at e1
    have b1:=a03 BR (((u.drop j).take (n+3)).take n) fun x hx=>hwd x (List.mem_of_mem_take hx)
    rw [List.length_take,hwl,Nat.min_eq_left (by omega)] at b1
    have b2:=a03 BR (v.take n) fun x hx=>hvd.lt x (List.mem_of_mem_take hx)
    rw [List.length_take,hvl,Nat.min_eq_left (by omega)] at b2
    have h1:=Nat.div_add_mod (u.getD (j+(n+2)) 0*BR+u.getD (j+(n+1)) 0) (v.getD (n+1) 0)
    refine d95 rfl e1 e2 s1 b1 b2 hBB (r5 hBB hD.ltu _) hvt (r5 hBB hvd.lt _) _ _ (by rw [Nat.mul_comm _ (v.getD (n+1) 0)];exact h1.symm) (d51 e1 e2 b1 (r5 hBB hD.ltu _) hvt)
  generalize hwin:(u.drop j).take (n+3)=win at *
  repeat' (first|(with_reducible first|refine j0 ?_|refine zwk ?_|refine i6 ?_|refine zgo ?_|refine zbn ?_|refine zge Tryz.results217 ?_|refine Sub.refl _|refine f9|refine w6 (out':=?_) ?_|refine u9 (y:=?_) ?_|refine w5 (eo':=?_) ?_)|(with_reducible refine zrs [17] hc ?_ ?_;focus (with_unfolding_all rfl))|(with_reducible refine zrm [17] hc mixed ?_ ?_;focus (with_unfolding_all rfl))|(with_reducible refine f6 ?_ ?_;focus (first|decide|omega))|(with_reducible first|refine zg2 ?_ ?_|refine zbo ?_|refine zg3 ?_ (fun h=>?_) (fun h=>?_)|refine zg4 (fun h=>?_) (fun h=>?_)|fail)|(omega;done))
  have w_g:=c2r (G:=G) (d9b u v j n (a.length+1) cc hD.ltu hvd.lt hvl hul (by omega) hca (by omega) hvt)
  refine b9z 0 a1u w_g ⟨Sub.refl _,Sub.refl _,Sub.refl _,trivial⟩ rfl (Nat.zero_le _) ?_ ?_
  · exact trivial
  generalize hg:gF BR (v.getD (n+1) 0) (v.getD n 0) (u.getD (j+n) 0) ((u.getD (j+(n+2)) 0*BR+u.getD (j+(n+1)) 0) / v.getD (n+1) 0) ((u.getD (j+(n+2)) 0*BR+u.getD (j+(n+1)) 0)%v.getD (n+1) 0)=t at *
  clear hg w_g
  have ht:=hKG.hq
  repeat' (first|(with_reducible first|refine j0 ?_|refine zr0 hc ?_|refine zm0 hc ?_|refine zwk ?_|refine i6 ?_|refine zgo ?_|refine zbn ?_|refine zge Tryz.results217 ?_|refine Sub.refl _|refine f9|refine w6 (out':=?_) ?_|refine u9 (y:=?_) ?_|refine w5 (eo':=?_) ?_)|(with_reducible refine f6 ?_ ?_;focus (first|decide|omega))|(with_reducible first|refine zg2 ?_ ?_|refine zbo ?_|refine zg3 ?_ (fun h=>?_) (fun h=>?_)|refine zg4 (fun h=>?_) (fun h=>?_)|fail)|(omega;done))
  refine m9 (α:=List Nat×Nat) (fun p=>n5 [(0,D a),(8,D [f]),(9,D v),(10,N (n+2:Nat)),(11,.one (.own 0 1 0 (a.length+1) cc)),(12,.one (.own 1 1 0 (a.length+1 - (n+2)) (a.length+1 - (n+2)))),(13,N j),(14,N t),(15,N p.2),(16,N p.1.length)] [(0,⟨1,a.length+1,fun k=> [.v (.int .i64 ((rw3 u j p.1).getD k 0:Nat))],false⟩),(1,⟨1,a.length+1 - (n+2),fun k=> [.v (.int .i64 (q.getD k 0:Nat))],false⟩)] 2)
    (fun p=>Ms1 BR t win v p.1 p.2) (fun p=>n+2 - p.1.length) ([],0) (Ms1.nil _ _ _ _) ?_ ?_
  · refine zW2 ?_ <;> repeat' (with_reducible first|exact trivial|refine j3 ?_ ?_|refine t7 (fun i hi=>?_))
    all_goals first|rfl|(rw [b8w])
  rintro ⟨d,c⟩ hM
  dsimp only at hM
  have hdl:=hM.len
  have hc1:=hM.hc
  rw [hvl] at hdl
  have gvd:=r7 v d.length
  have bvd:v.getD d.length 0 < BR:=r5 hBB hvd.lt _
  have hrow:d.length≤n+2→(rw3 u j d).getD (j+d.length) 0=win.getD d.length 0:=fun hi=>by rw [b66 (by omega) (Nat.le_refl _),go _ (by omega)]
  have hwj:d.length≤n+2→IntKind.i64.wrap ((d.length:Int)+(j:Int))=((j+d.length:Nat):Int):=fun hi=>by rw [IntKind.wrap_i64];omega
  have bwd:win.getD d.length 0 < BR:=r5 hBB hwd _
  have hvm:t*v.getD d.length 0≤999999999*999999999:=Nat.mul_le_mul (by omega) (by omega)
  have E1:IntKind.i64.wrap (IntKind.i64.wrap ((t:Int)*(y7 v).getD d.length 0)+(c:Int))=((t*v.getD d.length 0+c:Nat):Int):=by
    rw [gvd,←Int.natCast_mul,a9s (by omega),←Int.natCast_add,a9s (by omega)]
  have hbs:=c5o (B:=BR) (q:=t) (v:=v.getD d.length 0) (c:=c) (u:=win.getD d.length 0) (by decide) ht bvd hc1 bwd
  obtain ⟨X,hX⟩:∃X,t*v.getD d.length 0+c=X:=⟨_,rfl⟩
  have hXb:X / BR < BR:=by simp only [BR];omega
  have hXm:X%BR < BR:=Nat.mod_lt _ hBB
  have E2:=c48 X
  have E3:=c49 X
  rw [hX] at E1 hbs
  clear hvm
  repeat' (first|(with_reducible first|refine j0 ?_|refine zwk ?_|refine i6 ?_|refine zgo ?_|refine zbn ?_|refine zge Tryz.results217 ?_|refine Sub.refl _|refine f9|refine w6 (out':=?_) ?_|refine u9 (y:=?_) ?_|refine w5 (eo':=?_) ?_)|(with_reducible refine zrs [28] hc ?_ ?_;focus (with_unfolding_all rfl))|(with_reducible refine zrm [28] hc mixed ?_ ?_;focus (with_unfolding_all rfl))|(with_reducible refine f6 ?_ ?_;focus (first|decide|omega))|(with_reducible first|refine zg2 ?_ ?_|refine zbo ?_|refine zg3 ?_ (fun h=>?_) (fun h=>?_)|refine zg4 (fun h=>?_) (fun h=>?_)|fail)|((first|omega|(simp only [hwj hdl,Int.toNat_natCast,and_true];omega));done))
  · have hrow':=hrow hdl
    have hwj':=hwj hdl
    rw [hwj',Int.toNat_natCast,Nat.zero_add,hrow',E1,E3] at h
    have h2:win.getD d.length 0 < X%BR:=by rw [IntKind.wrap_i64] at h;omega
    obtain ⟨b1,b2,b3⟩:=hbs.1 h2
    refine ⟨(d++ [win.getD d.length 0+BR - X%BR],X / BR+1),hM.step (by omega) b1 b2 (by rw [hX];exact b3),?_,?_⟩
    · simp only [List.length_append,List.length_singleton];omega
    · refine zW2 ?_ <;> repeat' (with_reducible first|exact trivial|refine j3 ?_ ?_|refine t7 (fun i hi=>?_))
      · rw [E1,E2,d3p hXb]
        generalize X / BR=Qx at *
        rw [IntKind.wrap_i64];omega
      · rw [←a4s (by omega)]
        refine a06 _ (by rw [hwj',Int.toNat_natCast,Nat.zero_add]) ?_ (by rw [a0u (by omega)];omega)
        rw [hwj',Int.toNat_natCast,Nat.zero_add,hrow',E1,E3]
        generalize X%BR=Mx at *
        rw [IntKind.wrap_i64,IntKind.wrap_i64];omega
  · have hrow':=hrow hdl
    have hwj':=hwj hdl
    rw [hwj',Int.toNat_natCast,Nat.zero_add,hrow',E1,E3] at h
    have h2:¬win.getD d.length 0 < X%BR:=by rw [IntKind.wrap_i64] at h;omega
    obtain ⟨b1,b2,b3⟩:=hbs.2 h2
    refine ⟨(d++ [win.getD d.length 0 - X%BR],X / BR),hM.step (by omega) b1 b2 (by rw [hX];exact b3),?_,?_⟩
    · simp only [List.length_append,List.length_singleton];omega
    · refine zW2 ?_ <;> repeat' (with_reducible first|exact trivial|refine j3 ?_ ?_|refine t7 (fun i hi=>?_))
      · rw [E1,E2,d3p hXb]
      · rw [←a4s (by omega)]
        refine a06 _ (by rw [hwj',Int.toNat_natCast,Nat.zero_add]) ?_ (by rw [a0u (by omega)];omega)
        rw [hwj',Int.toNat_natCast,Nat.zero_add,hrow',E1,E3]
        generalize X%BR=Mx at *
        rw [IntKind.wrap_i64];omega
  -- the digits are taken off
  have hdn:d.length=n+2:=by omega
  have hMe:=hM.eq
  have hdlt:=hM.lt
  have hdv:=a03 BR d hdlt
  rw [hdn,List.take_of_length_le (by omega:v.length≤n+2)] at hMe
  rw [hdn] at hdv
  have hrow2:=hrow (by omega)
  rw [hdn] at hrow2
  have hWt:=a7g (B:=BR) (l:=win) (n:=n+2) hwl
  have butb:=r5 hBB hwd (n+2)
  have wjn:IntKind.i64.wrap ((j:Int)+((n+2:Nat):Int))=((j+(n+2):Nat):Int):=by rw [IntKind.wrap_i64];omega
  generalize hut:win.getD (n+2) 0=ut at *
  have wtc:IntKind.i64.wrap ((ut:Int) - (c:Int))=(ut:Int) - c:=by rw [IntKind.wrap_i64];omega
  clear E1 E2 E3 hXb hXm hbs hX X hrow bwd bvd gvd hwj hM
  refine m7 (st':=n5 [(0,D a),(8,D [f]),(9,D v),(10,N (n+2:Nat)),(11,.one (.own 0 1 0 (a.length+1) cc)),(12,.one (.own 1 1 0 (a.length+1 - (n+2)) (a.length+1 - (n+2)))),(13,N j),(14,N t),(15,N c)] [(0,⟨1,a.length+1,fun k=> [.v (.int .i64 ((rw3 u j d).getD k 0:Nat))],false⟩),(1,⟨1,a.length+1 - (n+2),fun k=> [.v (.int .i64 (q.getD k 0:Nat))],false⟩)] 2) ?_ ?_
  · refine zW2 ?_ <;> repeat' (with_reducible first|exact trivial|refine j3 ?_ ?_|refine t7 (fun i hi=>?_))
  repeat' (first|(with_reducible first|refine j0 ?_|refine zwk ?_|refine i6 ?_|refine zgo ?_|refine zbn ?_|refine zge Tryz.results217 ?_|refine Sub.refl _|refine f9|refine w6 (out':=?_) ?_|refine u9 (y:=?_) ?_|refine w5 (eo':=?_) ?_)|(with_reducible refine zrs [29] hc ?_ ?_;focus (with_unfolding_all rfl))|(with_reducible refine zrm [29] hc mixed ?_ ?_;focus (with_unfolding_all rfl))|(with_reducible refine f6 ?_ ?_;focus (first|decide|omega))|(with_reducible first|refine zg2 ?_ ?_|refine zbo ?_|refine zg3 ?_ (fun h=>?_) (fun h=>?_)|refine zg4 (fun h=>?_) (fun h=>?_)|fail)|((first|omega|(simp only [wjn,Int.toNat_natCast,and_true];omega));done))
  refine m7 (st':=n5 [(0,D a),(8,D [f]),(9,D v),(10,N (n+2:Nat)),(11,.one (.own 0 1 0 (a.length+1) cc)),(12,.one (.own 1 1 0 (a.length+1 - (n+2)) (a.length+1 - (n+2)))),(13,N j),(14,N t)] [(0,⟨1,a.length+1,fun k=> [.v (.int .i64 (if k=j+(n+2) then (ut:Int) - c else ((rw3 u j d).getD k 0:Nat)))],false⟩),(1,⟨1,a.length+1 - (n+2),fun k=> [.v (.int .i64 (q.getD k 0:Nat))],false⟩)] 2) ?_ ?_
  · refine zW2 ?_ <;> repeat' (with_reducible first|exact trivial|refine j3 ?_ ?_|refine t7 (fun i hi=>?_))
    rw [wjn,Int.toNat_natCast,Nat.zero_add,hrow2,wtc]
    split <;> rfl
  refine b84 (α:=Unit) (fun _=>n5 [(0,D a),(8,D [f]),(9,D v),(10,N (n+2:Nat)),(11,.one (.own 0 1 0 (a.length+1) cc)),(12,.one (.own 1 1 0 (a.length+1 - (n+2)) (a.length+1 - (n+2)))),(13,N j),(14,N (val BR win / val BR v:Nat))] [(0,⟨1,a.length+1,fun k=> [.v (.int .i64 ((rw3 u j (a2p BR (n+3) (val BR win%val BR v))).getD k 0:Nat))],false⟩),(1,⟨1,a.length+1 - (n+2),fun k=> [.v (.int .i64 (q.getD k 0:Nat))],false⟩)] 2) (fun _=>True) ?_ ?_
  · repeat' (first|(with_reducible first|refine j0 ?_|refine zwk ?_|refine i6 ?_|refine zgo ?_|refine zbn ?_|refine zge Tryz.results217 ?_|refine Sub.refl _|refine f9|refine w6 (out':=?_) ?_|refine u9 (y:=?_) ?_|refine w5 (eo':=?_) ?_)|(with_reducible refine zrs [30] hc ?_ ?_;focus (with_unfolding_all rfl))|(with_reducible refine zrm [30] hc mixed ?_ ?_;focus (with_unfolding_all rfl))|(with_reducible refine f6 ?_ ?_;focus (first|decide|omega))|(with_reducible first|refine zg2 ?_ ?_|refine zbo ?_|refine zg3 ?_ (fun h=>?_) (fun h=>?_)|refine zg4 (fun h=>?_) (fun h=>?_)|fail)|((first|omega|(simp only [wjn,Int.toNat_natCast,and_true];omega));done))
    · -- add back
      rw [wjn,Int.toNat_natCast,Nat.zero_add,if_pos rfl] at h
      refine m7 (st':=n5 [(0,D a),(8,D [f]),(9,D v),(10,N (n+2:Nat)),(11,.one (.own 0 1 0 (a.length+1) cc)),(12,.one (.own 1 1 0 (a.length+1 - (n+2)) (a.length+1 - (n+2)))),(13,N j),(14,N t)] [(0,⟨1,a.length+1,fun k=> [.v (.int .i64 (if k=j+(n+2) then (ut:Int) - c else ((rw3 u j d).getD k 0:Nat)))],false⟩),(1,⟨1,a.length+1 - (n+2),fun k=> [.v (.int .i64 (q.getD k 0:Nat))],false⟩)] 2) ?_ ?_
      · refine zW2 ?_ <;> repeat' (with_reducible first|exact trivial|refine j3 ?_ ?_|refine t7 (fun i hi=>?_))
      have hlr:(rw3 u j d).length=a.length+1:=by rw [a0u (by omega),hul]
      have hdx:∀i,i < n+2→(rw3 u j d).getD (j+i) 0=d.getD i 0:=fun i hi=>c4m (by omega) (by omega)
      generalize hR:rw3 u j d=R at *
      repeat' (first|(with_reducible first|refine j0 ?_|refine zr0 hc ?_|refine zm0 hc ?_|refine zwk ?_|refine i6 ?_|refine zgo ?_|refine zbn ?_|refine zge Tryz.results217 ?_|refine Sub.refl _|refine f9|refine w6 (out':=?_) ?_|refine u9 (y:=?_) ?_|refine w5 (eo':=?_) ?_)|(with_reducible refine f6 ?_ ?_;focus (first|decide|omega))|(with_reducible first|refine zg2 ?_ ?_|refine zbo ?_|refine zg3 ?_ (fun h=>?_) (fun h=>?_)|refine zg4 (fun h=>?_) (fun h=>?_)|fail)|((first|omega);done))
      refine m9 (α:=List Nat×Nat) (fun p=>n5 [(0,D a),(8,D [f]),(9,D v),(10,N (n+2:Nat)),(11,.one (.own 0 1 0 (a.length+1) cc)),(12,.one (.own 1 1 0 (a.length+1 - (n+2)) (a.length+1 - (n+2)))),(13,N j),(14,N (IntKind.i64.wrap ((t:Int) - 1))),(19,N p.2),(20,N p.1.length)] [(0,⟨1,a.length+1,fun k=> [.v (.int .i64 (if k=j+(n+2) then (ut:Int) - c else ((rw3 R j p.1).getD k 0:Nat)))],false⟩),(1,⟨1,a.length+1 - (n+2),fun k=> [.v (.int .i64 (q.getD k 0:Nat))],false⟩)] 2)
        (fun p=>a5r BR d v p.1 p.2) (fun p=>n+2 - p.1.length) ([],0) (a5r.nil _ _) ?_ ?_
      · refine zW2 ?_ <;> repeat' (with_reducible first|exact trivial|refine j3 ?_ ?_|refine t7 (fun i hi=>?_))
        all_goals first|rfl|(rw [b8w])
      rintro ⟨e,c'⟩ hA
      dsimp only at hA
      have hel:=hA.len
      have hcc:=hA.hc
      rw [hdn] at hel
      have gve:=r7 v e.length
      have bde:d.getD e.length 0 < BR:=r5 hBB hdlt _
      have bve:v.getD e.length 0 < BR:=r5 hBB hvd.lt _
      have hrow:e.length < n+2→(rw3 R j e).getD (j+e.length) 0=d.getD e.length 0:=fun hi=>by rw [b66 (by omega) (Nat.le_refl _),hdx _ hi]
      have hwj:IntKind.i64.wrap ((e.length:Int)+(j:Int))=((j+e.length:Nat):Int):=by rw [IntKind.wrap_i64];omega
      have E1:IntKind.i64.wrap (IntKind.i64.wrap ((d.getD e.length 0:Nat)+(y7 v).getD e.length 0)+(c':Int))=((d.getD e.length 0+v.getD e.length 0+c':Nat):Int):=by
        rw [gve,←Int.natCast_add,a9s (by omega),←Int.natCast_add,a9s (by omega)]
      have hst:=fun hh=>a5r.step (B:=BR) (by decide) hA hdlt hvd.lt hh
      generalize hX:d.getD e.length 0+v.getD e.length 0+c'=X at *
      have hXb:X / BR < BR:=by simp only [BR];omega
      repeat' (first|(with_reducible first|refine j0 ?_|refine zwk ?_|refine i6 ?_|refine zgo ?_|refine zbn ?_|refine zge Tryz.results217 ?_|refine Sub.refl _|refine f9|refine w6 (out':=?_) ?_|refine u9 (y:=?_) ?_|refine w5 (eo':=?_) ?_)|(with_reducible refine zrs [38] hc ?_ ?_;focus (with_unfolding_all rfl))|(with_reducible refine zrm [38] hc mixed ?_ ?_;focus (with_unfolding_all rfl))|(with_reducible refine f6 ?_ ?_;focus (first|decide|omega))|(with_reducible first|refine zg2 ?_ ?_|refine zbo ?_|refine zg3 ?_ (fun h=>?_) (fun h=>?_)|refine zg4 (fun h=>?_) (fun h=>?_)|fail)|((first|omega|(simp only [hwj,Int.toNat_natCast,and_true];omega));done))
      · refine ⟨(_,_),hst (by omega),?_,?_⟩
        · simp only [List.length_append,List.length_singleton];omega
        · have hrow':=hrow (by omega)
          refine zW2 ?_ <;> repeat' (with_reducible first|exact trivial|refine j3 ?_ ?_|refine t7 (fun i hi=>?_))
          · rw [hwj,Int.toNat_natCast,Nat.zero_add,if_neg (by omega),hrow',E1,c48,d3p hXb]
          · rw [←a4s (by omega)]
            refine d4k _ (by rw [hwj,Int.toNat_natCast,Nat.zero_add]) ?_ (by rw [a0u (by omega)];omega) (by omega)
            rw [hwj,Int.toNat_natCast,Nat.zero_add,if_neg (by omega),hrow',E1,c49]
      have hen:e.length=n+2:=by omega
      have hAe:=hA.eq
      rw [hen,List.take_of_length_le (by omega:d.length≤n+2),List.take_of_length_le (by omega:v.length≤n+2)] at hAe
      have hev:=a03 BR e hA.lt
      rw [hen] at hev
      obtain ⟨r1,r2,r3,r4⟩:=c62 (B:=BR) (n:=n+2) (q:=t) (V:=val BR v) (W:=val BR win) (c:=c) (ut:=ut) (N:=val BR d) (Wl:=val BR (List.take (n+2) win)) (E:=val BR e) (c':=c') (by rw [hWt,Nat.mul_comm,Nat.add_comm]) hMe hdv hev hKG.low hV3 hVp (by omega) hAe
      have eD:=a99 (B:=BR) hBB (a2d hA.lt hBB) (n:=n+3) (v:=val BR win%val BR v) (by simp [hen]) (by rw [a12,Nat.mul_zero,Nat.add_zero];exact r2)
      have hrr:rw3 R j (e++ [0])=rw3 u j (e++ [0]):=by
        rw [←hR,←a4s (by rw [a0u (by omega)];omega),d1c (by omega) (by omega),a4s (by omega)]
      have hrs:=a4s (o:=R) (j:=j) (d:=e) (by omega) 0
      repeat' (first|(with_reducible first|refine j0 ?_|refine zr0 hc ?_|refine zm0 hc ?_|refine zwk ?_|refine i6 ?_|refine zgo ?_|refine zbn ?_|refine zge Tryz.results217 ?_|refine Sub.refl _|refine f9|refine w6 (out':=?_) ?_|refine u9 (y:=?_) ?_|refine w5 (eo':=?_) ?_)|(with_reducible refine f6 ?_ ?_;focus (first|decide|omega))|(with_reducible first|refine zg2 ?_ ?_|refine zbo ?_|refine zg3 ?_ (fun h=>?_) (fun h=>?_)|refine zg4 (fun h=>?_) (fun h=>?_)|fail)|((first|omega|(simp only [wjn,Int.toNat_natCast,and_true];omega));done))
      refine ⟨(),trivial,?_⟩
      have hz:IntKind.i64.wrap ((ut:Int) - (c:Int)+(c':Int))=((0:Nat):Int):=by rw [IntKind.wrap_i64];omega
      refine zW2 ?_ <;> repeat' (with_reducible first|exact trivial|refine j3 ?_ ?_|refine t7 (fun i hi=>?_))
      rw [eD,←hrr,←hrs,hen,wjn,Int.toNat_natCast,Nat.zero_add,if_pos rfl]
      have hb:=a06 (k:=.i64) (o:=rw3 R j e) (X:=IntKind.i64.wrap ((ut:Int) - (c:Int)+(c':Int))) (d:=0) (p:=j+(n+2)) (i:=j+(n+2)) i rfl hz (by rw [a0u (by omega)];omega)
      rw [←hb]
      split <;> rfl
    · rw [wjn,Int.toNat_natCast,Nat.zero_add,if_pos rfl] at h
      obtain ⟨r1,r2,r3⟩:=d6q (B:=BR) (n:=n+2) (q:=t) (V:=val BR v) (W:=val BR win) (c:=c) (ut:=ut) (N:=val BR d) (Wl:=val BR (List.take (n+2) win)) (by rw [hWt,Nat.mul_comm,Nat.add_comm]) hMe hKG.up hV3 (by omega)
      refine ⟨(),trivial,?_⟩
      have eD:=a99 (B:=BR) hBB (a2d hdlt hBB) (n:=n+3) (v:=val BR win%val BR v) (by simp [hdn]) (by rw [a12,Nat.mul_zero,Nat.add_zero];exact r2)
      refine zW2 ?_ <;> repeat' (with_reducible first|exact trivial|refine j3 ?_ ?_|refine t7 (fun i hi=>?_))
      rw [eD,←a4s (by omega),hdn]
      exact d75 _ (by omega) (by rw [a0u (by omega)];omega)
  intro _ _
  repeat' (first|(with_reducible first|refine j0 ?_|refine zr0 hc ?_|refine zm0 hc ?_|refine zwk ?_|refine i6 ?_|refine zgo ?_|refine zbn ?_|refine zge Tryz.results217 ?_|refine Sub.refl _|refine f9|refine w6 (out':=?_) ?_|refine u9 (y:=?_) ?_|refine w5 (eo':=?_) ?_)|(with_reducible refine f6 ?_ ?_;focus (first|decide|omega))|(with_reducible first|refine zg2 ?_ ?_|refine zbo ?_|refine zg3 ?_ (fun h=>?_) (fun h=>?_)|refine zg4 (fun h=>?_) (fun h=>?_)|fail)|((first|omega|(simp only [wjn,Int.toNat_natCast,and_true];omega));done))
  have wj1:IntKind.i64.wrap ((j:Int) - 1)=(j:Int) - 1:=by rw [IntKind.wrap_i64];omega
  refine ⟨(j,rw3 u j (a2p BR (n+3) (val BR win%val BR v)),q.set j (val BR win / val BR v)),⟨by dsimp only;omega,?_,?_,s3⟩,by dsimp only;omega,?_⟩
  · rw [a0u (by rw [a1a];omega)];exact hul
  · rw [List.length_set];exact hql
  · refine zW2 ?_ <;> repeat' (with_reducible first|exact trivial|refine j3 ?_ ?_|refine t7 (fun i hi=>?_))
    exact a06 _ (Nat.zero_add _) rfl (by omega)
end Go.Proofs
end
