/- Lemmas on the program and its library: part ZR5. -/
import Derived.Test.YtoiejgkkcfkliaaGreatDoorZTxt2
import Derived.Test.YtoiejgkkcfkliaaGreatDoorZShelf
import Derived.Test.YtoiejgkkcfkliaaGreatDoorZR4
set_option linter.unusedVariables false
set_option linter.unusedSimpArgs false
section
set_option maxHeartbeats 4000000
set_option maxRecDepth 100000
namespace Go.Proofs
open Go.Ax
theorem a1c (a b:List UInt8):bs a++bs b=bs (a++b):=by
  apply ByteArray.ext
  simp [ByteArray.data_append]
def dp (k u:Nat):List UInt8:=if u=0 then List.replicate k 48 else a09 k u
theorem e1i {k:Nat} (h:0 < k) (u:Nat):a09 k u=dp k u:=by
  unfold dp
  split
  · rename_i e
    rw [e,a09,a3z,List.length_singleton]
    obtain ⟨j,rfl⟩:∃j,k=j+1:=⟨k - 1,by omega⟩
    rw [Nat.add_sub_cancel,List.replicate_succ']
  · rfl
theorem d8j {k u:Nat} (h:0 < k∨0 < u):dp k u=dp (k - 1) (u / 10)++ [UInt8.ofNat (48+u%10)]:=by
  rcases Nat.eq_zero_or_pos u with e|e
  · subst e
    obtain ⟨j,rfl⟩:∃j,k=j+1:=⟨k - 1,by omega⟩
    rw [dp,if_pos rfl,dp,if_pos rfl,Nat.add_sub_cancel,List.replicate_succ']
    rfl
  · rw [dp,if_neg (by omega)]
    rcases Nat.lt_or_ge u 10 with h1|h1
    · rw [dp,if_pos (by omega),a09,a0x h1,List.length_singleton,Nat.mod_eq_of_lt h1]
    · rw [dp,if_neg (by omega),a09,a09,a3c h1,List.length_append,List.length_singleton,←List.append_assoc,Nat.sub_sub,Nat.add_comm 1]
theorem d8k:dp 0 0= []:=rfl
theorem d5v:∀d:Nat,d < 10→(⟨#[48,49,50,51,52,53,54,55,56,57]⟩:ByteArray).extract d (d+1)=bs [UInt8.ofNat (48+d)]:=by
  intro d hd
  match d,hd with
  | 0,_=>rfl
  | 1,_=>rfl
  | 2,_=>rfl
  | 3,_=>rfl
  | 4,_=>rfl
  | 5,_=>rfl
  | 6,_=>rfl
  | 7,_=>rfl
  | 8,_=>rfl
  | 9,_=>rfl
theorem b2g (n least:Nat) (hn:n < 9223372036854775808) (h0:0 < least) (hl:least≤1000):Ax.Pure Tryz.prog G 142 [N n,N least] (S (bs (a09 least n))):=by
  have hT:(a09 least n).length≤1000:=by
    rw [a09,List.length_append,List.length_replicate]
    have:=a0p (u:=n) (k:=19) (by omega) (by decide)
    omega
  refine r8 Tryz.func142 rfl Tryz.ntmps142 ?_
  intro w0 E0 hc
  repeat' (first|refine n7 hc Tryz.results142 ?_|(with_reducible first|exact trivial|refine j3 ?_ ?_|refine m8 (fun h=>?_)|fail)|(omega;done))
  refine m9 (α:=Nat×List UInt8) (fun p=>n5 [(0,N p.1),(1,N least),(5,S (bs p.2))] [] 0)
    (fun p=>p.1 < 9223372036854775808∧a09 least n=dp (least - p.2.length) p.1++p.2) (fun p=>p.1+(least - p.2.length)) (n,[]) ⟨hn,by rw [e1i h0];simp⟩ ?_ ?_
  · refine zW1 ?_ <;> repeat' (with_reducible first|exact trivial|refine j3 ?_ ?_|refine t7 (fun i hi=>?_))
  · rintro ⟨m,s⟩ ⟨hm,hs⟩
    dsimp only at hm hs
    have hsz:=m6 s
    have hsl:s.length≤1000:=by have:=congrArg List.length hs;rw [List.length_append] at this;omega
    have e1:((m:Nat):Int).tmod 10=((m%10:Nat):Int):=c2n m 10
    have e2:IntKind.i64.wrap (((m%10:Nat):Int)+1)=((m%10+1:Nat):Int):=by rw [IntKind.wrap_i64];omega
    have e3:((m:Nat):Int).tdiv 10=((m / 10:Nat):Int):=b78 m 10
    have e4:=d5v (m%10) (Nat.mod_lt _ (by decide))
    have e5:(⟨#[48,49,50,51,52,53,54,55,56,57]⟩:ByteArray).extract (((m:Nat):Int).tmod 10).toNat (IntKind.i64.wrap (((m:Nat):Int).tmod 10+1)).toNat=bs [UInt8.ofNat (48+m%10)]:=by rw [e1,e2,Int.toNat_natCast,Int.toNat_natCast,e4]
    have S1:(bs [UInt8.ofNat (48+m%10)]).size+(bs s).size≤9223372036854775807∧true=true:=⟨by rw [m6,List.length_singleton];omega,rfl⟩
    have S2:0≤((m:Nat):Int).tmod 10∧((m:Nat):Int).tmod 10≤IntKind.i64.wrap (((m:Nat):Int).tmod 10+1)∧IntKind.i64.wrap (((m:Nat):Int).tmod 10+1)≤((⟨#[48,49,50,51,52,53,54,55,56,57]⟩:ByteArray).size:Nat):=by
      rw [e1,e2]
      exact ⟨by omega,by omega,(by omega:((m%10+1:Nat):Int)≤10)⟩
    have S3:(10:Int)≠0∧true=true:=⟨by decide,rfl⟩
    rw [←e5] at S1
    have e6:bs [UInt8.ofNat (48+m%10)]++bs s=bs (UInt8.ofNat (48+m%10) :: s):=a1c _ _
    have hst:0 < least - s.length∨0 < m→a09 least n=dp (least - (UInt8.ofNat (48+m%10) :: s).length) (m / 10)++(UInt8.ofNat (48+m%10) :: s):=fun h=>by
      rw [hs,d8j h,List.append_assoc,List.length_cons,Nat.sub_sub];rfl
    repeat' (first|refine n7 hc Tryz.results142 ?_|(with_reducible first|exact trivial|refine j3 ?_ ?_|refine m8 (fun h=>?_)|fail)|((first|omega|exact S1|exact S2|exact S3);done))
    · refine ⟨(m / 10,UInt8.ofNat (48+m%10) :: s),⟨by dsimp only;omega,hst (by omega)⟩,by simp only [List.length_cons];omega,?_⟩
      refine zW1 ?_ <;> repeat' (with_reducible first|exact trivial|refine j3 ?_ ?_|refine t7 (fun i hi=>?_))
      · rw [e5,e6];exact Sub.refl _
    · obtain rfl:m=0:=by omega
      rw [show least - s.length=0 by omega,d8k,List.nil_append] at hs
      rw [hs];exact Sub.refl _
    · refine ⟨(m / 10,UInt8.ofNat (48+m%10) :: s),⟨by dsimp only;omega,hst (by omega)⟩,by simp only [List.length_cons];omega,?_⟩
      refine zW1 ?_ <;> repeat' (with_reducible first|exact trivial|refine j3 ?_ ?_|refine t7 (fun i hi=>?_))
      · rw [e5,e6];exact Sub.refl _
theorem b1d (l:List UInt8) (i:Nat):l.toArray.getD i 0=l.getD i 0:=by simp [Array.getD_eq_getD_getElem?,List.getD_eq_getElem?_getD]
theorem d3o {l:List UInt8} {i:Nat} (h:i < l.length):n6 (l.take (i+1))=n6 (l.take i)*10+((l.getD i 0).toNat - 48):=by
  rw [List.take_succ_eq_append_getElem h,a5z,List.getD_eq_getElem?_getD,List.getElem?_eq_getElem h]
  simp [n6]
theorem c0u (c:UInt8) (l:List UInt8):(a1q c l).length≤l.length:=by
  have:=congrArg List.length (a5i c l).2
  rw [List.length_append] at this;omega
theorem d1n {c:UInt8} {l:List UInt8} {i:Nat} (h:i < l.length) (h2:i≤(a1q c l).length):l.getD i 0=c↔i=(a1q c l).length:=by
  obtain ⟨h3,h4⟩:=a5i c l
  generalize a1q c l=u at *
  generalize a2o c l=o at *
  subst h4
  rw [List.getD_eq_getElem?_getD]
  rcases Nat.lt_or_ge i u.length with h5|h5
  · rw [List.getElem?_append_left h5,List.getElem?_eq_getElem h5]
    refine ⟨fun e=>absurd (List.getElem_mem h5) (by simp only [Option.getD_some] at e;rw [e];exact h3),fun e=>by omega⟩
  · obtain rfl:i=u.length:=by omega
    refine ⟨fun _=>rfl,fun _=>?_⟩
    cases o with
    | none=>simp at h
    | some b=>simp
theorem e1o {l:List UInt8} (h:isD l) {i:Nat} (hi:i < l.length):48≤(l.getD i 0).toNat∧(l.getD i 0).toNat≤57:=by
  rw [List.getD_eq_getElem?_getD,List.getElem?_eq_getElem hi]
  exact h _ (List.getElem_mem hi)
theorem b8s (l:List UInt8) (hd:isD l) (hl:l.length≤18):Ax.Pure Tryz.prog G 223 [S (bs l)] (N (n6 l)):=by
  have hsz:=m6 l
  refine r8 Tryz.func223 rfl Tryz.ntmps223 ?_
  intro w0 E0 hc
  repeat' (first|refine n7 hc Tryz.results223 ?_|(with_reducible first|exact trivial|refine j3 ?_ ?_|refine m8 (fun h=>?_)|fail)|(omega;done))
  refine m9 (α:=Nat) (fun i=>n5 [(0,S (bs l)),(3,N (n6 (l.take i))),(4,N i)] [] 0)
    (fun i=>i≤l.length) (fun i=>l.length - i) 0 (Nat.zero_le _) ?_ ?_
  · refine zW1 ?_ <;> repeat' (with_reducible first|exact trivial|refine j3 ?_ ?_|refine t7 (fun i hi=>?_))
    rfl
  · intro i hi
    have hv:=a6l (b45 hd i)
    rw [List.length_take] at hv
    have ga:=b1d l i
    repeat' (first|refine n7 hc Tryz.results223 ?_|(with_reducible first|exact trivial|refine j3 ?_ ?_|refine m8 (fun h=>?_)|fail)|(omega;done))
    · have hil:i < l.length:=by omega
      have hv17:n6 (l.take i) < 10 ^ 17:=Nat.lt_of_lt_of_le hv (Nat.pow_le_pow_right (by decide) (by omega))
      have hat:=e1o hd hil
      refine ⟨i+1,hil,by omega,?_⟩
      refine zW1 ?_ <;> repeat' (with_reducible first|exact trivial|refine j3 ?_ ?_|refine t7 (fun i hi=>?_))
      rw [ga,d3o hil]
      generalize n6 (l.take i)=V at *
      generalize (l.getD i 0).toNat=d at *
      have q1:IntKind.i64.wrap (10*(V:Int))=10*V:=w64 (by omega) (by omega)
      have q2:IntKind.i64.wrap (d:Int)=d:=w64 (by omega) (by omega)
      have q3:IntKind.i64.wrap (10*(V:Int)+d)=10*V+d:=w64 (by omega) (by omega)
      have q4:IntKind.i64.wrap (10*(V:Int)+d - 48)=10*V+d - 48:=w64 (by omega) (by omega)
      rw [q1,q2,q3,q4]
      omega
    · obtain rfl:i=l.length:=by omega
      rw [List.take_length];exact Sub.refl _
theorem a7t (l:List UInt8) (hl:l.length≤1000000000):Ax.Pure Tryz.prog G 121 [S (bs l)] (N (a1q 47 l).length):=by
  have hsz:=m6 l
  have hu:=c0u 47 l
  refine r8 Tryz.func121 rfl Tryz.ntmps121 ?_
  intro w0 E0 hc
  repeat' (first|refine n7 hc Tryz.results121 ?_|(with_reducible first|exact trivial|refine j3 ?_ ?_|refine m8 (fun h=>?_)|fail)|(omega;done))
  refine m9 (α:=Nat) (fun i=>n5 [(0,S (bs l)),(3,N i)] [] 0)
    (fun i=>i≤(a1q 47 l).length) (fun i=>l.length - i) 0 (Nat.zero_le _) ?_ ?_
  · refine zW1 ?_ <;> repeat' (with_reducible first|exact trivial|refine j3 ?_ ?_|refine t7 (fun i hi=>?_))
  · intro i hi
    have ga:=b1d l i
    repeat' (first|refine n7 hc Tryz.results121 ?_|(with_reducible first|exact trivial|refine j3 ?_ ?_|refine m8 (fun h=>?_)|fail)|(omega;done))
    · rename_i g
      rw [ga] at h
      rw [(d1n (by omega) hi).1 (UInt8.toNat_inj.1 (Int.ofNat.inj h))]
      exact Sub.refl _
    · rename_i g
      rw [ga] at h
      have hne:i≠(a1q 47 l).length:=fun e=>h (congrArg (fun c:UInt8=>(c.toNat:Int)) ((d1n (c:=47) (by omega) hi).2 e))
      refine ⟨i+1,by omega,by omega,?_⟩
      refine zW1 ?_ <;> repeat' (with_reducible first|exact trivial|refine j3 ?_ ?_|refine t7 (fun i hi=>?_))
    · have e:l.length=(a1q 47 l).length:=by omega
      rw [hsz,e];exact Sub.refl _
end Go.Proofs
end
section
set_option maxHeartbeats 4000000
set_option maxRecDepth 100000
namespace Go.Proofs
open Go.Ax
theorem b3t (n:Nat):a09 1 n=Lib.decDigits n:=by
  have:=b09 n
  rw [a09,show 1 - (Lib.decDigits n).length=0 by omega];rfl
theorem a9r (B:Nat) (l:List Nat) {i:Nat} (h:i < l.length):val B (l.drop i)=l.getD i 0+B*val B (l.drop (i+1)):=by
  rw [List.drop_eq_getElem_cons h,List.getD_eq_getElem?_getD,List.getElem?_eq_getElem h]
  simp [val]
theorem b79 (B:Nat) (l:List Nat) (i:Nat) (hB:0 < B):val B (l.drop i)≤val B l:=by
  conv=>rhs;rw [←List.take_append_drop i l,a2c]
  have:=Nat.le_mul_of_pos_left (val B (l.drop i)) (Nat.pow_pos (n:=(l.take i).length) hB)
  omega
theorem b4u {a b:Nat} (h:a≤b):(Lib.decDigits a).length≤(Lib.decDigits b).length:=
  a0p (Nat.lt_of_le_of_lt h (a5b (Nat.le_refl _))) (b09 b)
theorem a44 (n:Nat):(Lib.decDigits n).length≤9*(f7 BR n).length+1:=by
  refine a0p (Nat.lt_of_lt_of_le (b4w (B:=BR) BR2) ?_) (by omega)
  rw [show BR=10 ^ 9 from rfl,←Nat.pow_mul]
  exact Nat.pow_le_pow_right (by decide) (by omega)
theorem c4j (z:Int) (hz:rl z≤500000000):Ax.Pure Tryz.prog G 206 [rA z] (S (bs (r6 z))):=by
  have dz:=j5 (B:=BR) BR2 z.natAbs
  have lz:(f7 BR z.natAbs).length≤500000000:=hz
  have vz:=j8 (B:=BR) BR2 z.natAbs
  have dl:=a44 z.natAbs
  have l':=m5 (f7 BR z.natAbs)
  have hnil:=a2f (B:=BR) (n:=z.natAbs) BR2
  have hl0:=List.length_eq_zero_iff (l:=f7 BR z.natAbs)
  refine r8 Tryz.func206 rfl Tryz.ntmps206 ?_
  intro w0 E0 hc
  repeat' (first|(with_reducible first|refine j0 ?_|refine zwk ?_|refine i6 ?_|refine zgo ?_|refine zbn ?_|refine zge Tryz.results206 ?_|refine Sub.refl _|refine f9|refine w6 (out':=?_) ?_|refine u9 (y:=?_) ?_|refine w5 (eo':=?_) ?_)|(with_reducible refine zrs [3] hc ?_ ?_;focus (with_unfolding_all rfl))|(with_reducible refine zrm [3] hc mixed ?_ ?_;focus (with_unfolding_all rfl))|(with_reducible refine f6 ?_ ?_;focus (first|decide|omega))|(with_reducible first|refine zg2 ?_ ?_|refine zbo ?_|refine zg3 ?_ (fun h=>?_) (fun h=>?_)|refine zg4 (fun h=>?_) (fun h=>?_)|fail)|(omega;done))
  · have hz0:z=0:=by
      have:=hnil.1 (hl0.1 (by omega));omega
    subst hz0
    exact j6 (by rw [show r6 0= [48] from a3z])
  · generalize hds:f7 BR z.natAbs=ds at *
    have hpos:0 < ds.length:=by omega
    have wt:IntKind.i64.wrap (((y7 ds).length:Int) - 1)=((ds.length - 1:Nat):Int):=by rw [IntKind.wrap_i64];omega
    have wt2:IntKind.i64.wrap (((y7 ds).length:Int) - 2)=((ds.length - 1:Nat):Int) - 1:=by rw [IntKind.wrap_i64];omega
    have gt:=r7 ds (ds.length - 1)
    have bt:=r5 (B:=BR) (by decide) dz.lt (ds.length - 1)
    have wtn:(IntKind.i64.wrap (((y7 ds).length:Int) - 1)).toNat=ds.length - 1:=by rw [wt,Int.toNat_natCast]
    have c_d1:Ax.Pure Tryz.prog G 142 [N ((y7 ds).getD (IntKind.i64.wrap (((y7 ds).length:Int) - 1)).toNat 0),N 1] (S (bs (Lib.decDigits (ds.getD (ds.length - 1) 0)))):=by
      rw [wtn,gt,←b3t]
      exact b2g (ds.getD (ds.length - 1) 0) 1 (Nat.lt_trans bt (by decide)) (by decide) (by decide)
    have hne:ds≠[]:=fun e=>by rw [e] at hpos;simp at hpos
    have dtop:0 < ds.getD (ds.length - 1) 0:=by
      have h:=dz.last
      rw [List.getLast?_eq_getElem?] at h
      have hlt:ds.length - 1 < ds.length:=by omega
      rw [List.getD_eq_getElem?_getD]
      rw [List.getElem?_eq_getElem hlt] at h ⊢
      simp only [ne_eq,Option.some.injEq,Option.getD_some] at h ⊢
      omega
    have vtop:val BR (ds.drop (ds.length - 1))=ds.getD (ds.length - 1) 0:=by
      rw [a9r BR ds (by omega),show ds.length - 1+1=ds.length by omega,List.drop_length];simp [val]
    have hdb:=b4u (b79 BR ds (ds.length - 1) (by decide))
    rw [vz] at hdb
    repeat' (first|refine n7 hc Tryz.results206 ?_|(with_reducible first|exact trivial|refine j3 ?_ ?_|refine m8 (fun h=>?_)|refine c9 c_d1 ?_ ?_|fail)|((first|omega|(simp only [wt,Int.toNat_natCast,and_true];omega));done))
    refine m9 (α:=Nat) (fun k=>n5 [(1,.one (.ptr 0 2 0 0)),(3,S (bs (Lib.decDigits (val BR (ds.drop k))))),(4,N ((k:Int) - 1))] [(0,⟨2,1,fun _=> [.v (.bool (decide (z < 0))),.ints .i64 (y7 ds)],false⟩)] 1)
      (fun k=>k < ds.length∧0 < val BR (ds.drop k)) (fun k=>k) (ds.length - 1) ⟨by omega,by rw [vtop];exact dtop⟩ ?_ ?_
    · refine zW2 ?_ <;> repeat' (with_reducible first|exact trivial|refine j3 ?_ ?_|refine t7 (fun i hi=>?_))
      rw [vtop];exact Sub.refl _
    · rintro k ⟨hk,hp⟩
      have hkl:=b4u (b79 BR ds k (by decide))
      rw [vz] at hkl
      have bsz:=m6 (Lib.decDigits (val BR (ds.drop k)))
      rcases k with _|j
      · rw [List.drop_zero,vz] at bsz ⊢
        have S1:(⟨#[45]⟩:ByteArray).size+(bs (Lib.decDigits z.natAbs)).size≤9223372036854775807∧true=true:=⟨by rw [bsz,show (⟨#[45]⟩:ByteArray).size=1 from rfl];omega,rfl⟩
        repeat' (first|refine n7 hc Tryz.results206 ?_|(with_reducible first|exact trivial|refine j3 ?_ ?_|refine m8 (fun h=>?_)|fail)|((first|omega|exact S1);done))
        · refine j6 ?_
          rw [r6,if_pos h,show (⟨#[45]⟩:ByteArray)++bs (Lib.decDigits z.natAbs)=bs (45 :: Lib.decDigits z.natAbs) from a1c [45] _]
        · refine j6 ?_
          rw [r6,if_neg h]
      have ej:(((j+1:Nat):Int) - 1)=j:=by omega
      rw [ej]
      have gj:=r7 ds j
      have bj:=r5 (B:=BR) (by decide) dz.lt j
      have c_d9:=b2g (ds.getD j 0) 9 (Nat.lt_trans bj (by decide)) (by decide) (by decide)
      rw [←gj] at c_d9
      have l9:(a09 9 (ds.getD j 0)).length=9:=by
        have:=a0p (u:=ds.getD j 0) (k:=9) (Nat.lt_of_lt_of_le bj (by decide)) (by decide)
        rw [a09,List.length_append,List.length_replicate];omega
      have bs9:=m6 (a09 9 (ds.getD j 0))
      have S1:(bs (Lib.decDigits (val BR (ds.drop (j+1))))).size+(bs (a09 9 (ds.getD j 0))).size≤9223372036854775807∧true=true:=⟨by rw [bsz,bs9,l9];omega,rfl⟩
      have hvd:=a9r BR ds (i:=j) (by omega)
      have hda:=b2w (k:=9) hp (by decide) (ds.getD j 0) bj
      rw [show val BR (ds.drop (j+1))*10 ^ 9+ds.getD j 0=val BR (ds.drop j) by rw [hvd,Nat.mul_comm BR,Nat.add_comm]] at hda
      repeat' (first|refine n7 hc Tryz.results206 ?_|(with_reducible first|exact trivial|refine j3 ?_ ?_|refine m8 (fun h=>?_)|refine c9 c_d9 ?_ ?_|fail)|((first|omega|exact S1);done))
      refine ⟨j,⟨by omega,by rw [hvd];have:=Nat.mul_pos (show 0 < BR by decide) hp;omega⟩,by omega,?_⟩
      refine zW2 ?_ <;> repeat' (with_reducible first|exact trivial|refine j3 ?_ ?_|refine t7 (fun i hi=>?_))
      rw [a1c,hda];exact Sub.refl _
end Go.Proofs
end
section
set_option maxHeartbeats 4000000
set_option maxRecDepth 100000
namespace Go.Proofs
open Go.Ax
theorem b94 (neg:Bool) (l:List UInt8) (hd:isD l) (hl:l.length≤1000000000):Ax.Pure Tryz.prog G 134 [S (bs (if neg then 45 :: l else l))] (rA (if neg then -(n6 l:Int) else n6 l)):=by
  have hz:=m6 (if neg then 45 :: l else l)
  have hz2:(if neg then 45 :: l else l).length=l.length+(if neg=true then 1 else 0):=by cases neg <;> rfl
  rw [hz2] at hz
  have ga:=b1d (if neg then 45 :: l else l) 0
  have g0:(((if neg then 45 :: l else l).getD 0 0).toNat:Int)=45↔neg=true:=by
    cases neg
    · refine ⟨fun h=>?_,fun h=>by cases h⟩
      cases l with
      | nil=>exact absurd h (by decide)
      | cons b l =>
        have:=hd b (by simp)
        simp only [Bool.false_eq_true,if_false,List.getD_cons_zero] at h
        omega
    · exact ⟨fun _=>rfl,fun _=>by simp⟩
  have hex:neg=true→(bs (if neg then 45 :: l else l)).extract 1 (bs (if neg then 45 :: l else l)).size=bs l:=fun h=>by
    subst h
    rw [a0k,m6];simp
  refine r8 Tryz.func134 rfl Tryz.ntmps134 ?_
  intro w0 E0 hc
  repeat' (first|(with_reducible first|refine j0 ?_|refine zwk ?_|refine i6 ?_|refine zgo ?_|refine zbn ?_|refine zge Tryz.results134 ?_|refine Sub.refl _|refine f9|refine w6 (out':=?_) ?_|refine u9 (y:=?_) ?_|refine w5 (eo':=?_) ?_)|(with_reducible refine zrs [4] hc ?_ ?_;focus (with_unfolding_all rfl))|(with_reducible refine zrm [4] hc mixed ?_ ?_;focus (with_unfolding_all rfl))|(with_reducible refine f6 ?_ ?_;focus (first|decide|omega))|(with_reducible first|refine zg2 ?_ ?_|refine zbo ?_|refine zg3 ?_ (fun h=>?_) (fun h=>?_)|refine zg4 (fun h=>?_) (fun h=>?_)|fail)|(omega;done))
  rotate_left 3
  all_goals
    refine m7 (st':=n5 [(0,S (bs l)),(2,.one (.ptr 0 2 0 0)),(3,Bo' neg)] [(0,⟨2,1,fun _=> [.v (.bool false),.v (.slice none 0 0)],false⟩)] 1) ?_ ?_
  · have hn:neg=true:=g0.1 (by rw [←ga];assumption)
    refine zW2 ?_ <;> repeat' (with_reducible first|exact trivial|refine j3 ?_ ?_|refine t7 (fun i hi=>?_))
    · rw [hex hn];exact Sub.refl _
    · refine j6 ?_
      rw [hn];exact congrArg Bo' (beq_iff_eq.2 (by rw [hn] at h;exact h))
  rotate_left 1
  · have hn:neg=false:=by
      cases neg
      · rfl
      · exact absurd (g0.2 rfl) (by rw [←ga];assumption)
    refine zW2 ?_ <;> repeat' (with_reducible first|exact trivial|refine j3 ?_ ?_|refine t7 (fun i hi=>?_))
    · rw [hn];exact Sub.refl _
    · refine j6 ?_
      rw [hn];exact congrArg Bo' (beq_eq_false_iff_ne.2 (by rw [hn] at h;exact h))
  rotate_left 1
  · have hn:neg=false:=by
      cases neg
      · rfl
      · exfalso;simp only [if_true] at hz;simp only [if_true] at h;omega
    refine zW2 ?_ <;> repeat' (with_reducible first|exact trivial|refine j3 ?_ ?_|refine t7 (fun i hi=>?_))
    · rw [hn];exact Sub.refl _
    · rw [hn];exact Sub.refl _
  all_goals
    clear hz
    repeat' (first|refine n7 hc Tryz.results134 ?_|(with_reducible first|exact trivial|refine j3 ?_ ?_|refine m8 (fun h=>?_)|fail)|(omega;done))
    refine m9 (α:=List Nat×Nat) (fun p=>n5 [(0,S (bs (l.take (l.length - 9*p.1.length)))),(2,.one (.ptr 0 2 0 0)),(3,Bo' neg),(4,.one (.gr 1 1 p.1.length p.2))] [(0,⟨2,1,fun _=> [.v (.bool false),.v (.slice none 0 0)],false⟩),(1,⟨1,p.2,a6k .i64 (y7 p.1),true⟩)] 2)
      (fun p=>(∀d∈p.1,d < BR)∧p.1.length≤p.2∧9*p.1.length≤l.length∧val BR p.1+BR ^ p.1.length*n6 (l.take (l.length - 9*p.1.length))=n6 l) (fun p=>l.length - 9*p.1.length) ([],0) ⟨by simp,Nat.le_refl _,by simp,by simp [val]⟩ ?_ ?_
    · refine zW2 ?_ <;> repeat' (with_reducible first|exact trivial|refine j3 ?_ ?_|refine t7 (fun i hi=>?_))
      rw [Nat.sub_zero,List.take_length];exact Sub.refl _
    rintro ⟨w,cc⟩ ⟨hw,hcc,h9,hv⟩
    dsimp only at hw hcc h9 hv
    have lw:=m5 w
    obtain ⟨m,hm⟩:∃m,m=l.length - 9*w.length:=⟨_,rfl⟩
    rw [←hm] at hv ⊢
    have hsz:(bs (l.take m)).size=m:=by rw [m6,List.length_take];omega
    have w9:9 < m→IntKind.i64.wrap (((bs (l.take m)).size:Int) - 9)=((m - 9:Nat):Int):=fun h=>by rw [hsz,IntKind.wrap_i64];omega
    have dm:=b45 hd m
    have e1:9 < m→(bs (l.take m)).extract (IntKind.i64.wrap (((bs (l.take m)).size:Int) - 9)).toNat (bs (l.take m)).size=bs ((l.take m).drop (m - 9)):=fun h=>by
      rw [w9 h,Int.toNat_natCast,hsz,a0k,List.take_of_length_le]
      rw [List.length_drop,List.length_take];omega
    have dv:=c6k dm (m - 9)
    have c_v:9 < m→Ax.Pure Tryz.prog G 223 [S ((bs (l.take m)).extract (IntKind.i64.wrap (((bs (l.take m)).size:Int) - 9)).toNat (bs (l.take m)).size)] (N (n6 ((l.take m).drop (m - 9)))):=fun h=>by
      rw [e1 h]
      exact b8s _ dv (by rw [List.length_drop,List.length_take];omega)
    have c_v2:¬9 < m→Ax.Pure Tryz.prog G 223 [S (bs (l.take m))] (N (n6 (l.take m))):=fun h=>b8s _ dm (by rw [List.length_take];omega)
    rcases Nat.lt_or_ge 9 m with hm9|hm9'
    · repeat' (first|(with_reducible first|refine j0 ?_|refine zr0 hc ?_|refine zm0 hc ?_|refine zwk ?_|refine i6 ?_|refine zgo ?_|refine zbn ?_|refine zge Tryz.results134 ?_|refine Sub.refl _|refine f9|refine w6 (out':=?_) ?_|refine u9 (y:=?_) ?_|refine w5 (eo':=?_) ?_)|(with_reducible refine f6 ?_ ?_;focus (first|decide|omega))|(with_reducible first|refine zg2 ?_ ?_|apply c7r hc|apply b8a hc|refine a26 (fun cc_ hcc_=>?_)|exact b7p|refine c9 (c_v ?_) ?_ ?_|refine zbo ?_|refine zg3 ?_ (fun h=>?_) (fun h=>?_)|refine zg4 (fun h=>?_) (fun h=>?_)|fail)|(exact Is.refl _)|(omega;done))
      have hld:((l.take m).drop (m - 9)).length=9:=by rw [List.length_drop,List.length_take];omega
      have hvb:n6 ((l.take m).drop (m - 9)) < BR:=by have:=a6l dv;rwa [hld] at this
      have hsp:=c9s (l.take m) (m - 9)
      rw [List.take_take,Nat.min_eq_left (by omega),List.length_take,Nat.min_eq_left (by omega),show m - (m - 9)=9 by omega] at hsp
      have hwl:l.length - 9*(w++ [n6 ((l.take m).drop (m - 9))]).length=m - 9:=by rw [List.length_append,List.length_singleton];omega
      refine ⟨(w++ [n6 ((l.take m).drop (m - 9))],cc_),⟨a2d hw hvb,by rw [List.length_append,List.length_singleton];exact hcc_,by rw [List.length_append,List.length_singleton];omega,?_⟩,by dsimp only;rw [hwl];omega,?_⟩
      · have e4:n6 ((l.take m).drop (m - 9))+BR*n6 (l.take (m - 9))=n6 (l.take (m - 9))*10 ^ 9+n6 ((l.take m).drop (m - 9)):=by rw [Nat.add_comm,Nat.mul_comm]
        dsimp only
        rw [hwl,a12,←hv,hsp,List.length_append,List.length_singleton,Nat.pow_succ,Nat.add_assoc,Nat.mul_assoc,←Nat.mul_add,e4]
      · refine zW2 ?_ <;> repeat' (with_reducible first|exact trivial|refine j3 ?_ ?_|refine t7 (fun i hi=>?_))
        · rw [hwl,w9 hm9,Int.toNat_natCast,a0k,List.drop_zero,Nat.sub_zero,List.take_take,Nat.min_eq_left (by omega)];exact Sub.refl _
        · rw [a5y w rfl]
    · have hm9:¬9 < m:=by omega
      have hvb:n6 (l.take m) < BR:=by
        have:=a6l dm
        rw [List.length_take] at this
        exact Nat.lt_of_lt_of_le this (Nat.pow_le_pow_right (n:=10) (by decide) (by omega:min m l.length≤9))
      repeat' (first|(with_reducible first|refine j0 ?_|refine zr0 hc ?_|refine zm0 hc ?_|refine zwk ?_|refine i6 ?_|refine zgo ?_|refine zbn ?_|refine zge Tryz.results134 ?_|refine Sub.refl _|refine f9|refine w6 (out':=?_) ?_|refine u9 (y:=?_) ?_|refine w5 (eo':=?_) ?_)|(with_reducible refine f6 ?_ ?_;focus (first|decide|omega))|(with_reducible first|refine zg2 ?_ ?_|apply c7r hc|apply b8a hc|refine a26 (fun cc_ hcc_=>?_)|exact b7p|refine c9 (c_v2 ?_) ?_ ?_|refine zbo ?_|refine zg3 ?_ (fun h=>?_) (fun h=>?_)|refine zg4 (fun h=>?_) (fun h=>?_)|fail)|(exact Is.refl _)|(omega;done))
      refine d6i hc _ 1 38 (w.length+1) cc_ 1 (a6k .i64 (y7 w++ [(n6 (l.take m):Int)])) [(2,.one (.ptr 0 2 0 0)),(33,Bo' neg)] [(0,⟨2,1,fun _=> [.v (.bool false),.v (.slice none 0 0)],false⟩)] 2 ?_ rfl trivial rfl hcc_ (fun i hi=>?_) (List.forall_mem_cons.2 ⟨⟨by decide,rfl⟩,List.forall_mem_cons.2 ⟨⟨show (33:Nat)≠38 by decide,rfl⟩,fun _ h=>by cases h⟩⟩) (List.forall_mem_cons.2 ⟨⟨by decide,rfl⟩,fun _ h=>by cases h⟩) rfl ?_
      · refine zW2 ?_ <;> repeat' (with_reducible first|exact trivial|refine j3 ?_ ?_|refine t7 (fun i hi=>?_))
      · rw [b8v (by rw [List.length_append,List.length_singleton,lw];exact hi)];exact ⟨trivial,trivial⟩
      have c_s:=a4r neg (w++ [n6 (l.take m)]) (a2d hw hvb) (by rw [List.length_append,List.length_singleton];omega)
      rw [a12,hv] at c_s
      repeat' (first|refine n7 hc Tryz.results134 ?_|(with_reducible first|exact trivial|refine j3 ?_ ?_|refine m8 (fun h=>?_)|fail)|(omega;done))
      refine a2v a1u c_s ⟨Sub.refl _,a4v (by rw [m5,List.length_append,List.length_singleton]) (fun i hi=>?_),trivial⟩ trivial ?_
      · rw [a5y w rfl,b8v (by rw [m5,List.length_append,List.length_singleton];exact hi)]
      repeat' (first|refine n7 hc Tryz.results134 ?_|(with_reducible first|exact trivial|refine j3 ?_ ?_|refine m8 (fun h=>?_)|fail)|(omega;done))
      all_goals exact Sub.refl _
theorem d9c (l:List UInt8) (hd:isD l) (hl:l.length≤1000000000):Ax.Pure Tryz.prog G 134 [S (bs l)] (rA (n6 l)):=b94 false l hd hl
theorem d54 (z:Int):r6 z=if decide (z < 0)=true then 45 :: Lib.decDigits z.natAbs else Lib.decDigits z.natAbs:=by
  unfold r6;simp
theorem b95 (z:Int) (hl:(Lib.decDigits z.natAbs).length≤1000000000):Ax.Pure Tryz.prog G 134 [S (bs (r6 z))] (rA z):=by
  have h:=b94 (decide (z < 0)) (Lib.decDigits z.natAbs) (a1x _) hl
  rw [a3y] at h
  have e:(if decide (z < 0)=true then -(z.natAbs:Int) else (z.natAbs:Int))=z:=c4t z
  rw [e] at h
  rw [d54];exact h
end Go.Proofs
end
section
set_option maxHeartbeats 4000000
set_option maxRecDepth 100000
namespace Go.Proofs
open Go.Ax
theorem b1e (z:Int):(r6 z).length≤(Lib.decDigits z.natAbs).length+1:=by
  unfold r6;split <;> simp
theorem d6n (z:Int) (hl:(Lib.decDigits z.natAbs).length≤100000000):Ax.Pure Tryz.prog G 123 [S (bs (r6 z))] (.tup [rA z,rA 1]):=by
  have hu:=(a6r (a1n z)).1
  have hs:=m6 (r6 z)
  have hi:=b1e z
  have c_sl:=a7t (r6 z) (by omega)
  rw [hu] at c_sl
  have c_pa:=b95 z (by omega)
  have c_wh:=c4k 1 (by decide) (by decide)
  refine r8 Tryz.func123 rfl Tryz.ntmps123 ?_
  intro w0 E0 hc
  repeat' (first|refine n7 hc Tryz.results123 ?_|(with_reducible first|exact trivial|refine j3 ?_ ?_|refine m8 (fun h=>?_)|refine c9 c_sl ?_ ?_|refine c9 c_pa ?_ ?_|refine c9 c_wh ?_ ?_|fail)|(omega;done))
theorem c61 (z:Int) (d:Nat) (hl:(Lib.decDigits z.natAbs).length≤100000000) (hd:(Lib.decDigits d).length≤100000000):Ax.Pure Tryz.prog G 123 [S (bs (r6 z++47 :: Lib.decDigits d))] (.tup [rA z,rA d]):=by
  have hu:=(a9p (b:=Lib.decDigits d) (a1n z)).1
  have hs:=m6 (r6 z++47 :: Lib.decDigits d)
  have hi:=b1e z
  have hl2:(r6 z++47 :: Lib.decDigits d).length=(r6 z).length+((Lib.decDigits d).length+1):=by rw [List.length_append,List.length_cons]
  have c_sl:=a7t (r6 z++47 :: Lib.decDigits d) (by omega)
  rw [hu] at c_sl
  have c_pa:=b95 z (by omega)
  have c_pd:=d9c (Lib.decDigits d) (a1x d) (by omega)
  rw [a3y] at c_pd
  have e1:(bs (r6 z++47 :: Lib.decDigits d)).extract 0 (r6 z).length=bs (r6 z):=by rw [a0k];simp
  have e2:(bs (r6 z++47 :: Lib.decDigits d)).extract (IntKind.i64.wrap (((r6 z).length:Nat)+1)).toNat (bs (r6 z++47 :: Lib.decDigits d)).size=bs (Lib.decDigits d):=by
    rw [show IntKind.i64.wrap ((((r6 z).length:Nat):Int)+1)=(((r6 z).length+1:Nat):Int) by rw [IntKind.wrap_i64];omega,Int.toNat_natCast,a0k,hs,hl2]
    rw [List.take_of_length_le]
    · simp
    · rw [List.length_drop,hl2];omega
  rw [←e1] at c_pa
  rw [←e2] at c_pd
  have S1:0≤IntKind.i64.wrap (((r6 z).length:Nat)+1:Int)∧IntKind.i64.wrap (((r6 z).length:Nat)+1:Int)≤((bs (r6 z++47 :: Lib.decDigits d)).size:Nat)∧((bs (r6 z++47 :: Lib.decDigits d)).size:Int)≤((bs (r6 z++47 :: Lib.decDigits d)).size:Nat):=by
    rw [show IntKind.i64.wrap ((((r6 z).length:Nat):Int)+1)=(((r6 z).length+1:Nat):Int) by rw [IntKind.wrap_i64];omega]
    omega
  refine r8 Tryz.func123 rfl Tryz.ntmps123 ?_
  intro w0 E0 hc
  repeat' (first|refine n7 hc Tryz.results123 ?_|(with_reducible first|exact trivial|refine j3 ?_ ?_|refine m8 (fun h=>?_)|refine c9 c_sl ?_ ?_|refine c9 c_pa ?_ ?_|refine c9 c_pd ?_ ?_|fail)|((first|omega|exact S1);done))
theorem b2h (q:Rat) (hl:(Lib.decDigits q.num.natAbs).length≤100000000) (hd:(Lib.decDigits q.den).length≤100000000):Ax.Pure Tryz.prog G 123 [S (bs (c5 q))] (.tup [rA q.num,rA q.den]):=by
  unfold c5
  split
  · rename_i h
    rw [h]
    exact d6n q.num hl
  · exact c61 q.num q.den hl hd
theorem b4x (n d:Int) (h0:d≠0):(Rat.divInt n d).num=sgn (decide ((if d < 0 then -n else n) < 0)) (n.natAbs / Nat.gcd n.natAbs d.natAbs)∧(Rat.divInt n d).den=d.natAbs / Nat.gcd n.natAbs d.natAbs:=by
  have key:∀(m:Int) (k:Nat),k≠0→m.natAbs=n.natAbs→k=d.natAbs→(mkRat m k).num=sgn (decide (m < 0)) (n.natAbs / Nat.gcd n.natAbs d.natAbs)∧(mkRat m k).den=d.natAbs / Nat.gcd n.natAbs d.natAbs:=by
    intro m k hk hm hd
    unfold mkRat
    rw [dif_neg hk,Rat.normalize_eq]
    refine ⟨?_,by show k / m.natAbs.gcd k=_;rw [hm,hd]⟩
    show m / (m.natAbs.gcd k:Nat)=_
    rw [←hm,←hd]
    have hg:=Nat.gcd_dvd_left m.natAbs k
    have hp:0 < Nat.gcd m.natAbs k:=Nat.gcd_pos_of_pos_right _ (Nat.pos_of_ne_zero hk)
    generalize Nat.gcd m.natAbs k=g at *
    obtain ⟨c,hc⟩:=hg
    rw [hc,Nat.mul_div_cancel_left _ hp]
    rcases Int.lt_or_le m 0 with h|h
    · have e:m= -((g*c:Nat):Int):=by omega
      rw [sgn,if_pos (by simpa using h)]
      conv=>lhs;rw [e]
      rw [Int.natCast_mul,←Int.mul_neg,Int.mul_ediv_cancel_left _ (by omega)]
    · have e:m=((g*c:Nat):Int):=by omega
      rw [sgn,if_neg (by simp;omega)]
      conv=>lhs;rw [e]
      rw [Int.natCast_mul,Int.mul_ediv_cancel_left _ (by omega)]
  rcases Int.lt_trichotomy d 0 with h|h|h
  · obtain ⟨k,rfl⟩:∃k:Nat,d=Int.negSucc k:=⟨(-d - 1).toNat,by omega⟩
    rw [if_pos h]
    exact key (-n) (k+1) (by omega) (by omega) (by omega)
  · exact absurd h h0
  · obtain ⟨k,rfl⟩:∃k:Nat,d=(k:Int):=⟨d.toNat,by omega⟩
    rw [if_neg (by omega)]
    exact key n k (by omega) rfl (by omega)
theorem b0g (n d:Int) (h0:d≠0) (ln:rl n≤10000000) (ld:rl d≤10000000):Ax.Pure Tryz.prog G 139 [rA n,rA d] (S (bs (c5 (Rat.divInt n d)))):=by
  obtain ⟨p1,p2⟩:=b4x n d h0
  obtain ⟨N',hN⟩:∃N':Int,N'=if d < 0 then -n else n:=⟨_,rfl⟩
  have hNa:N'.natAbs=n.natAbs:=by rw [hN];split <;> omega
  rw [←hN] at p1
  have lnn:(f7 BR n.natAbs).length≤10000000:=ln
  have ldd:(f7 BR d.natAbs).length≤10000000:=ld
  have dn:=j5 (B:=BR) BR2 n.natAbs
  have dd:=j5 (B:=BR) BR2 d.natAbs
  have hgp:0 < Nat.gcd n.natAbs d.natAbs:=Nat.gcd_pos_of_pos_right _ (by omega)
  have c_co:=c60 n.natAbs d.natAbs (by omega) (by omega)
  obtain ⟨g,hg⟩:∃g,g=Nat.gcd n.natAbs d.natAbs:=⟨_,rfl⟩
  have hgd:g≤d.natAbs:=by rw [hg];exact Nat.gcd_le_right _ (by omega)
  rw [←hg] at c_co p1 p2 hgp
  have dg:=j5 (B:=BR) BR2 g
  have lg:=Nat.le_trans (a47 hgd) ldd
  have g0:f7 BR g≠[]:=fun e=>by have:=(a2f (B:=BR) BR2).1 e;omega
  have c_d1:=a7s _ _ dn dg g0 (by omega) (by omega)
  have c_d2:=a7s _ _ dd dg g0 (by omega) (by omega)
  rw [j8 BR2,j8 BR2] at c_d1 c_d2
  rw [←p2] at c_d2
  have dp:=j5 (B:=BR) BR2 (n.natAbs / g)
  have lp:=Nat.le_trans (a47 (Nat.div_le_self n.natAbs g)) lnn
  have c_s1:=a4r (decide (N' < 0)) _ dp.lt (by omega)
  rw [j8 BR2,←p1] at c_s1
  have hdl:(Rat.divInt n d).den≤d.natAbs:=by rw [p2];exact Nat.div_le_self _ _
  have lq:=Nat.le_trans (a47 hdl) ldd
  have dq:=j5 (B:=BR) BR2 (Rat.divInt n d).den
  have c_s2:=a4r false _ dq.lt (by omega)
  rw [j8 BR2,show sgn false (Rat.divInt n d).den=((Rat.divInt n d).den:Int) from rfl] at c_s2
  have hna:(Rat.divInt n d).num.natAbs=n.natAbs / g:=by rw [p1,b8x]
  have c_t1:=c4j (Rat.divInt n d).num (by unfold rl;rw [hna];omega)
  have c_t2:=c4j ((Rat.divInt n d).den:Int) (by unfold rl;rw [Int.natAbs_natCast];omega)
  have l1:=b1e (Rat.divInt n d).num
  have l2:=b1e ((Rat.divInt n d).den:Int)
  have l3:=a44 (Rat.divInt n d).num.natAbs
  have l4:=a44 (Rat.divInt n d).den
  rw [hna] at l3
  rw [hna] at l1
  rw [Int.natAbs_natCast] at l2
  have hq1:(Rat.divInt n d).den=1↔(f7 BR (Rat.divInt n d).den).length=1∧(f7 BR (Rat.divInt n d).den).getD 0 0=1:=by
    constructor
    · intro h;rw [h];exact ⟨rfl,rfl⟩
    · rintro ⟨h1,h2⟩
      have:=c6j h1
      rw [h2,j8 BR2] at this
      exact this
  have gq:=r7 (f7 BR (Rat.divInt n d).den) 0
  have lq':=m5 (f7 BR (Rat.divInt n d).den)
  have hrat:c5 (Rat.divInt n d)=if (Rat.divInt n d).den=1 then r6 (Rat.divInt n d).num else r6 (Rat.divInt n d).num++47 :: Lib.decDigits (Rat.divInt n d).den:=rfl
  have hint:r6 ((Rat.divInt n d).den:Int)=Lib.decDigits (Rat.divInt n d).den:=by unfold r6;rw [if_neg (by omega),Int.natAbs_natCast]
  rw [hint] at c_t2 l2
  generalize (Rat.divInt n d).den=dN at *
  generalize (Rat.divInt n d).num=nN at *
  generalize c5 (Rat.divInt n d)=R at *
  refine r8 Tryz.func139 rfl Tryz.ntmps139 ?_
  intro w0 E0 hc
  repeat' (first|(with_reducible first|refine j0 (x:=.region _ _ _) ?_|refine j0 (x:=.seq _ _) ?_|refine j0 (x:=.block _ _) ?_|refine j0 (x:=.loop _) ?_|refine j0 (x:=.skip) ?_|refine zr0 hc ?_|refine zm0 hc ?_|refine i6 ?_|refine zgo ?_|refine zbn ?_|refine zge Tryz.results139 ?_|refine Sub.refl _|refine f9|refine w6 (out':=?_) ?_|refine u9 (y:=?_) ?_|refine w5 (eo':=?_) ?_)|(with_reducible refine f6 ?_ ?_;focus (first|decide|omega))|(with_reducible first|refine zg2 ?_ ?_|refine c9 (d08 _ ?_) ?_ ?_|refine zbo ?_|refine zg3 ?_ (fun h=>?_) (fun h=>?_)|refine zg4 (fun h=>?_) (fun h=>?_)|fail)|(omega;done))
  refine a4j (α:=Unit) (fun _=>n5 [(2,.one (.ptr 0 2 0 0)),(3,.one (.ptr 1 2 0 0))] [(0,⟨2,1,fun _=> [.v (.bool (decide (N' < 0))),.ints .i64 (y7 (f7 BR n.natAbs))],false⟩),(1,⟨2,1,fun _=> [.v (.bool false),.ints .i64 (y7 (f7 BR d.natAbs))],false⟩)] 2) (fun _=>True) ?_ ?_
  · repeat' (first|refine n7 hc Tryz.results139 ?_|(with_reducible first|exact trivial|refine j3 ?_ ?_|refine m8 (fun h=>?_)|refine c9 (d08 _ ?_) ?_ ?_|fail)|(omega;done))
    · rw [if_pos h] at hN
      refine ⟨(),trivial,?_⟩
      refine zW2 ?_ <;> repeat' (with_reducible first|exact trivial|refine j3 ?_ ?_|refine t7 (fun i hi=>?_))
      · rw [←hN,hNa,if_pos rfl];exact u4.refl _
      · rw [Int.natAbs_neg,show decide (-d < 0)=false by simpa using Int.le_of_lt h,if_pos rfl];exact u4.refl _
    · rw [if_neg h] at hN
      refine ⟨(),trivial,?_⟩
      refine zW2 ?_ <;> repeat' (with_reducible first|exact trivial|refine j3 ?_ ?_|refine t7 (fun i hi=>?_))
      · rw [hN];exact u4.refl _
      · rw [show decide (d < 0)=false by simpa using h];exact u4.refl _
  intro _ _
  have z1:=m6 (r6 nN)
  have z2:=m6 (Lib.decDigits dN)
  have z3:bs (r6 nN)++(⟨#[47]⟩:ByteArray)=bs (r6 nN++ [47]):=a1c (r6 nN) [47]
  have z4:(bs (r6 nN)++(⟨#[47]⟩:ByteArray)).size=(r6 nN).length+1:=by rw [z3,m6,List.length_append,List.length_singleton]
  have S1:(bs (r6 nN)).size+(⟨#[47]⟩:ByteArray).size≤9223372036854775807∧true=true:=⟨by rw [z1,show (⟨#[47]⟩:ByteArray).size=1 from rfl];omega,rfl⟩
  have S2:(bs (r6 nN)++(⟨#[47]⟩:ByteArray)).size+(bs (Lib.decDigits dN)).size≤9223372036854775807∧true=true:=⟨by rw [z4,z2];omega,rfl⟩
  have hfin:dN≠1→Ax.Sub (S (bs (r6 nN)++(⟨#[47]⟩:ByteArray)++bs (Lib.decDigits dN))) (S (bs R)):=fun h=>by
    rw [hrat,if_neg h,z3,a1c,List.append_assoc];exact Sub.refl _
  repeat' (first|refine n7 hc Tryz.results139 ?_|(with_reducible first|exact trivial|refine j3 ?_ ?_|refine m8 (fun h=>?_)|refine c9 c_co ?_ ?_|refine c9 c_d1 ?_ ?_|refine c9 c_d2 ?_ ?_|refine c9 c_s1 ?_ ?_|refine c9 c_s2 ?_ ?_|refine c9 c_t1 ?_ ?_|refine c9 c_t2 ?_ ?_|fail)|((first|omega|exact S1|exact S2);done))
  · rw [hrat,if_pos (hq1.2 ⟨by omega,by omega⟩)];exact Sub.refl _
  · refine hfin fun e=>?_
    have:=hq1.1 e
    omega
  · refine hfin fun e=>?_
    have:=hq1.1 e
    omega
theorem d2s (n:Int) (h1:-9223372036854775808≤n) (h2:n≤9223372036854775807):Ax.Pure Tryz.prog G 160 [N n] (S (bs (r6 n))):=by
  have hl:rl n≤500000000:=Nat.le_trans (b99 (k:=3) (by rw [show BR ^ 3=1000000000000000000000000000 by decide];omega)) (by decide)
  refine r8 Tryz.func160 rfl Tryz.ntmps160 ?_
  intro w0 E0 hc
  repeat' (first|refine n7 hc Tryz.results160 ?_|(with_reducible first|exact trivial|refine j3 ?_ ?_|refine m8 (fun h=>?_)|refine c9 (c4k _ ?_ ?_) ?_ ?_|refine c9 (c4j _ ?_) ?_ ?_|fail)|(omega;done))
end Go.Proofs
end
