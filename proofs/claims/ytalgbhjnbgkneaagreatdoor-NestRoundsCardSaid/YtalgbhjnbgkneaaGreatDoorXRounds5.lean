/- Further lemmas on the program, part Rounds5. -/
import Derived.Test.YtalgbhjnbgkneaaGreatDoorXRounds3
import Derived.Test.YtalgbhjnbgkneaaGreatDoorXRounds4
import Derived.Test.YtalgbhjnbgkneaaGreatDoorZNA
set_option linter.unusedVariables false
set_option linter.unusedSimpArgs false
section
namespace Go.Proofs
open Go.Ax
theorem errL_zero {l:List Int} (h:∀x∈l,1≤x∧x≤10000):errL l=0:=by
  unfold errL badL
  have:l.any badN=false:=by
    rw [List.any_eq_false]
    intro x hx
    have:=h x hx
    simp [badN]
    omega
  rw [this];rfl
theorem bdsL_get {d:Nat} {t k n:Int} {m i:Nat} (h:i < m):(bdsL d t k n m).getD i 0=wid d t k n i:=by
  unfold bdsL
  simp [List.getD_eq_getElem?_getD,h]
theorem sum_pos:∀{l:List Int},l≠[]→(∀x∈l,1≤x)→0 < l.sum
  | [],h,_=>absurd rfl h
  | [x], _, h => by
    have:=h x (by simp)
    simp;omega
  | x :: y :: r, _, h => by
    have h1:=h x (by simp)
    have h2:=sum_pos (l:=y :: r) (by simp) fun z hz=>h z (List.mem_cons_of_mem _ hz)
    rw [List.sum_cons];omega
theorem bsum_pos {d:Nat} {t k:Int} {n:Nat} (h:1≤n) (ho:bdsOk d t k n n=true):bsum d t k n=(bdsL d t k n n).sum∧0 < bsum d t k n:=by
  have e:bsum d t k n=(bdsL d t k n n).sum:=by
    unfold bsum
    rw [Int.toNat_natCast,if_pos ho]
  refine ⟨e,?_⟩
  rw [e]
  refine sum_pos (fun h0=>?_) fun x hx=>?_
  · have:=bdsL_len d t k n n
    rw [h0] at this
    simp at this
    omega
  · obtain ⟨j,hj,rfl⟩:=List.mem_map.1 hx
    have:=bdsOk_all.1 ho j (List.mem_range.1 hj)
    show 1≤((wid d t k n j:Nat):Int)
    omega
theorem bsum_ok {d:Nat} {t k:Int} {n:Nat} (h:0 < bsum d t k n):bdsOk d t k n n=true:=by
  unfold bsum at h
  rw [Int.toNat_natCast] at h
  cases e:bdsOk d t k n n with
  | true=>rfl
  | false=>rw [e,if_neg Bool.false_ne_true] at h;exact absurd h (by decide)
theorem w_Rounds0 (a b c p D T K W M:Nat) (ha:a < 256) (hb:b < 256) (hc':c < 256) (hp:p < 256) (hD:D=1+a%100) (hT:T=1+b%40) (hK:K=c%10) (hW:W=1+p%D) (hM:M=1+p%6):Ax.Pure Tryz.prog G 11 [u4 a b c p] (Bo true):=by
  have aw:=c_awake
  have hD1:1≤D∧D≤100:=by omega
  have hW1:1≤W∧W≤D:=by have:=Nat.mod_lt p (show D > 0 by omega);omega
  have c_1:=c_Highest D W
  rw [errL_zero (l:=[(D:Int),(W:Int)]) (by intro x hx;simp at hx;rcases hx with rfl|rfl <;> omega),if_pos rfl,if_pos rfl,Int.toNat_natCast,Int.toNat_natCast] at c_1
  have c_2:=c_Strongest D
  rw [errL_zero (l:=[(D:Int)]) (by intro x hx;simp at hx;subst hx;omega),if_pos rfl,if_pos rfl,if_pos rfl,Int.toNat_natCast] at c_2
  obtain ⟨A,hA,hAm,hAs⟩:=stB_spec D (D+1)
  rw [show bst (stg D) (rng (D+1)) (0,0)=stB D from rfl] at hA hAm hAs
  rw [hA,Int.toNat_natCast] at c_2
  have hs1:=sid_iff (d:=D) (w:=W) (h:=1) (by decide)
  have hs2:=sid_iff (d:=D) (w:=W) (h:=sid D W+1) (by omega)
  have hsl:=sid_le D W
  have hyl:=sid_le D A
  have sg:∀w:Nat,stg D w=((w*sid D w*sid D w:Nat):Int):=fun w=>by
    unfold stg
    rw [Int.toNat_natCast,Int.natCast_mul,Int.natCast_mul]
  have mD:D*D≤10000:=Nat.mul_le_mul hD1.2 hD1.2
  have mW:W*W≤10000:=Nat.mul_le_mul (show W≤100 by omega) (show W≤100 by omega)
  have mWs:W*sid D W≤10000:=Nat.mul_le_mul (show W≤100 by omega) (show sid D W≤100 by omega)
  have mWss:W*sid D W*sid D W≤1000000:=Nat.mul_le_mul mWs (show sid D W≤100 by omega)
  have wDD:IntKind.i64.wrap ((D:Int)*D)=((D*D:Nat):Int):=by rw [←Int.natCast_mul];exact w64n (by omega)
  have e0:∃e:Nat,(if sid D W=0 then (7:Int) else 0)=e∧((sid D W=0∧e=7)∨(sid D W≠0∧e=0)):=by
    by_cases h:sid D W=0
    · exact ⟨7,by rw [if_pos h];rfl,.inl ⟨h,rfl⟩⟩
    · exact ⟨0,by rw [if_neg h];rfl,.inr ⟨h,rfl⟩⟩
  obtain ⟨e,ee,he⟩:=e0
  rw [ee] at c_1
  have e1:∃y z:Nat,(if (A:Int)=0 then (0:Int) else ((sid D A:Nat):Int))=y∧(if (A:Int)=0 then (7:Int) else 0)=z∧(A≠0→y=sid D A∧z=0):=by
    by_cases h:A=0
    · exact ⟨0,7,by rw [if_pos (by omega)];rfl,by rw [if_pos (by omega)];rfl,fun g=>absurd h g⟩
    · exact ⟨sid D A,0,by rw [if_neg (by omega)],by rw [if_neg (by omega)];rfl,fun _=>⟨rfl,rfl⟩⟩
  obtain ⟨y,z,ey,ez,hyz⟩:=e1
  rw [ey,ez] at c_2
  have hP:(e=7∧¬IntKind.i64.wrap (IntKind.i64.wrap ((W:Int)*W)+1)≤IntKind.i64.wrap ((D:Int)*D))∨(e=0∧z=0∧1≤A∧A≤D∧1≤y∧y≤D∧¬IntKind.i64.wrap ((D:Int)*D) < IntKind.i64.wrap (IntKind.i64.wrap ((A:Int)*A)+IntKind.i64.wrap ((y:Int)*y))∧¬IntKind.i64.wrap (IntKind.i64.wrap ((A:Int)*y)*y) < IntKind.i64.wrap (IntKind.i64.wrap ((W:Int)*(sid D W:Nat))*(sid D W:Nat))):=by
    rcases he with ⟨h,h'⟩|⟨h,h'⟩
    · refine .inl ⟨h',?_⟩
      rw [wDD,←Int.natCast_mul,w64n (by omega),w64 (by omega) (by omega)]
      have:=mt hs1.2 (by omega)
      omega
    · have h1:=hAm W (by omega)
      have h2:0 < W*sid D W*sid D W:=Nat.mul_pos (Nat.mul_pos (by omega) (by omega)) (by omega)
      rw [sg] at h1
      rcases hAs with ⟨_,g⟩|⟨g1,g2,g3,g4⟩
      · rw [g] at h1;omega
      · obtain ⟨rfl,rfl⟩:=hyz (by omega)
        rw [g3,sg] at h1
        rw [sg] at g4
        have g5:sid D A≠0:=fun g=>by rw [g,Nat.mul_zero] at g4;omega
        have g6:=(sid_iff (d:=D) (w:=A) (h:=sid D A) (by omega)).1 (Nat.le_refl _)
        have mA:A*sid D A≤10000:=Nat.mul_le_mul (show A≤100 by omega) (show sid D A≤100 by omega)
        have mAs:A*sid D A*sid D A≤1000000:=Nat.mul_le_mul mA (show sid D A≤100 by omega)
        refine .inr ⟨h',rfl,g1,by omega,by omega,hyl,?_,?_⟩
        · rw [wDD,←Int.natCast_mul,←Int.natCast_mul,w64n (by omega),w64n (by omega),←Int.natCast_add,w64n (by omega)]
          omega
        · rw [←Int.natCast_mul,←Int.natCast_mul,w64n (by omega),w64n (by omega),←Int.natCast_mul,←Int.natCast_mul,w64n (by omega),w64n (by omega)]
          omega
  have c_3:e=0→Ax.Pure Tryz.prog G 49 [N W,N (sid D W),N D] (.tup [Bo true,N 0]):=fun h=>by
    have hz:sid D W≠0:=by omega
    have:=c_Fits W (sid D W) D
    rw [errL_zero (l:=[(W:Int),((sid D W:Nat):Int),(D:Int)]) (by intro x hx;simp at hx;rcases hx with rfl|rfl|rfl <;> omega),if_pos rfl] at this
    have h3:=(sid_iff (d:=D) (w:=W) (h:=sid D W) (by omega)).1 (Nat.le_refl _)
    have e2:fitB W (sid D W) D=true:=decide_eq_true (by rw [←Int.natCast_mul,←Int.natCast_mul,←Int.natCast_mul,←Int.natCast_add];omega)
    rwa [e2] at this
  have c_4:e=0→Ax.Pure Tryz.prog G 49 [N W,N (IntKind.i64.wrap (((sid D W:Nat):Int)+1)),N D] (.tup [Bo false,N 0]):=fun h=>by
    have e3:IntKind.i64.wrap (((sid D W:Nat):Int)+1)=((sid D W+1:Nat):Int):=by rw [w64 (by omega) (by omega)];omega
    rw [e3]
    have:=c_Fits W ((sid D W+1:Nat):Int) D
    rw [errL_zero (l:=[(W:Int),((sid D W+1:Nat):Int),(D:Int)]) (by intro x hx;simp only [List.mem_cons,List.not_mem_nil,or_false] at hx;rcases hx with rfl|rfl|rfl <;> omega),if_pos rfl] at this
    have h3:=mt hs2.2 (by omega)
    have e2:fitB W ((sid D W+1:Nat):Int) D=false:=decide_eq_false (by rw [←Int.natCast_mul,←Int.natCast_mul,←Int.natCast_mul,←Int.natCast_add];omega)
    rwa [e2] at this
  have hL:logE D T K=0:=by
    unfold logE
    rw [errL_zero (l:=[(D:Int),(T:Int)]) (by intro x hx;simp at hx;rcases hx with rfl|rfl <;> omega),if_pos rfl,if_neg (by omega)]
  have c_5:=c_Boards D T K M hL (by omega) (by omega)
  have c_6:=c_BestBoards D T K hL
  obtain ⟨m,em,hm1,hm2,hm3,hm4⟩:=bbB_spec D T K 64
  rw [em] at c_6
  have hM2:=hm2 M (by omega) (by omega)
  cases eo:bdsOk D T K M M with
  | false =>
    have z0:bsum D T K M=0:=by
      unfold bsum
      rw [Int.toNat_natCast,if_neg (by rw [eo];exact Bool.false_ne_true)]
    have er:bdsR D T K M= []:=by unfold bdsR;rw [eo];rfl
    rw [eo,if_neg Bool.false_ne_true,er] at c_5
    by_cases h:m=0
    · rw [if_pos (by omega)] at c_6
      exact rnd_a aw a b c p D T K W M ha hb hc' hp hD hT hK hW hM _ _ y z e m 7 c_1 c_2 hP c_3 c_4 c_5 c_6 (.inr ⟨h,rfl⟩)
    · rw [if_neg (by omega)] at c_6
      refine rnd_a aw a b c p D T K W M ha hb hc' hp hD hT hK hW hM _ _ y z e m 0 c_1 c_2 hP c_3 c_4 c_5 c_6 (.inl ⟨?_,rfl⟩)
      rintro rfl
      rcases hm4 with ⟨g,_⟩|⟨_,_,g⟩
      · exact h g
      · omega
  | true =>
    obtain ⟨es,ps⟩:=bsum_pos (by omega) eo
    have er:bdsR D T K M=bdsL D T K M M:=by unfold bdsR;rw [if_pos eo]
    rw [eo,if_pos rfl,er] at c_5
    rcases hm4 with ⟨_,g⟩|⟨g1,g2,g3⟩
    · omega
    · have om:=bsum_ok g3
      obtain ⟨es',_⟩:=bsum_pos g1 om
      have c_7:=c_Boards D T K m hL g1 hm1
      have er':bdsR D T K m=bdsL D T K m m:=by unfold bdsR;rw [if_pos om]
      rw [om,if_pos rfl,er'] at c_7
      rw [if_neg (by omega)] at c_6
      have fin1:∀i:Nat,i < M→(bdsL D T K M M).getD i 0=wid D T K M i∧1≤wid D T K M i:=fun i hi=>⟨bdsL_get hi,by
        have:=bdsOk_all.1 eo i hi
        omega⟩
      have fin2:(bdsL D T K M M).sum < (bdsL D T K m m).sum∨((bdsL D T K M M).sum=(bdsL D T K m m).sum∧m≤M):=by
        rw [←es,←es',←g2]
        rcases Nat.lt_or_ge M m with g|g
        · exact .inl (hm3 M (by omega) g)
        · rcases Int.lt_or_eq_of_le hM2 with g'|g'
          · exact .inl g'
          · exact .inr ⟨g',g⟩
      rcases hP with hP|hP
      · exact rnd_b aw a b c p D T K W M ha hb hc' hp hD hT hK hW hM _ _ y z e m c_1 c_2 hP c_3 c_4 _ _ c_5 c_6 c_7 ⟨g1,hm1⟩ (bdsL_len ..) (bdsL_len ..) (bdsL_bd (by omega)) (bdsL_bd (by omega)) fin1 fin2
      · exact rnd_c aw a b c p D T K W M ha hb hc' hp hD hT hK hW hM _ _ y z e m c_1 c_2 hP c_3 c_4 _ _ c_5 c_6 c_7 ⟨g1,hm1⟩ (bdsL_len ..) (bdsL_len ..) (bdsL_bd (by omega)) (bdsL_bd (by omega)) fin1 fin2
theorem w_Rounds (a b c p:Nat) (ha:a < 256) (hb:b < 256) (hc':c < 256) (hp:p < 256):Ax.Pure Tryz.prog G 11 [u4 a b c p] (Bo true):=
  w_Rounds0 a b c p _ _ _ _ _ ha hb hc' hp rfl rfl rfl rfl rfl
-- axioms of w_Rounds
end Go.Proofs
end
