/- Lemmas on the program and its library, part Vx15. -/
import Derived.LoopNIn
import Derived.RangeFuncLeaves
import Derived.RangeFuncCalls
import Derived.Scope
import Derived.RangeFuncNested
import Derived.Test.YtalgbhjnbgkneaaGreatDoorZVx11
set_option linter.unusedVariables false
set_option linter.unusedSimpArgs false
section
namespace Go.Vx
open Go.Ax (TtOk TyI nthO nthO_eq backOk backOk_spec ancOf masks anc_spec slotsOk drawOk constOk looksAt_guard)
open Go.RowKit (Below)
section
variable {P:Program} {w0:World} {ng:Nat} {ops:Array Oper} {lim N:Nat} {tt:TypeId→Option TyI} {call:CallF}
theorem rng_iff {a b c:Nat}:(Nat.ble a b && Nat.ble (b+1) c)=true↔a≤b∧b < c:=by
  simp only [Bool.and_eq_true,Nat.ble_eq];omega
theorem effB_iff {d:Dv} {b:Nat}:effB d b=true↔d.old=some b∨(d.lo≤b∧b < d.hi):=by
  unfold effB
  rw [Bool.or_eq_true,isOld_iff,rng_iff]
theorem viewF_some {S:Sx} {m:Nat} {acc:List Dv} {rd:List Nat} {b:Nat} {z:Blk} (h:viewF S m acc rd b=some z):b∈rd∧exclB m b acc 0=false∧S.f b=some z:=by
  unfold viewF at h
  split at h
  · rename_i h1
    split at h
    · cases h
    · rename_i h2;exact ⟨memB_iff.1 h1,h2,h⟩
  · cases h
theorem stepR_call (htt:TtOk P tt) (hcall:CallOk P w0 ng call) {l:Nat} {S S1:Sx} {t:Nat→VV} {o:Oper} {v:VV} (hng:ng≤S.nb) (hl:l≤S.nb) (e:evOpr tt ng call l S (evV t) o=some (v,S1)) :
    StepR P w0 ng o (evV t) ⟨o.dst,true,v,S.f,S1.f,fun b=>Nat.ble l b && Nat.ble (b+1) S1.nb,fun b=>Nat.ble S.nb b && Nat.ble (b+1) S1.nb⟩:=by
  obtain ⟨h1,h2,h3⟩:=evOpr_sound htt hcall hng hl e
  intro n ro ρ w a K Q hw hf hop hK
  refine h3 n ro ρ w a K Q hw (fun b hb hb'=>hf b (rng_iff.2 ⟨hb,hb'⟩)) hop fun v' w' ⟨ρ',q1,q2,q3⟩=>hK v' ρ' w' q1 q2 (q3.mono fun b hb=>rng_iff.2 hb)
theorem drGo_ok (htt:TtOk P tt) (hcall:CallOk P w0 ng call):∀(rest:List Oper) (ms:List Nat) (i:Nat) (t:Tr VV) (S:Sx) (acc:List Dv) (t':Tr VV) (S':Sx),drGo tt ng call lim N ops rest ms i t S acc=some (t',S')→acc.length=i→ng≤S.nb→lim≤S.nb→
    (∀(p:Nat) (d:Dv),acc[p]?=some d→∀b,effB d b=true→b < S.nb)→(∀b z,S.f b=some z→b < S.nb∨S'.nb≤b)→∃rs,DrOk P w0 ng ops lim rest ms i (tvf t) S acc (tvf t') S' rs
  | [], ms, i, t, S, acc, t', S', e, hacc, hng, hlim, heff, hfree => by
    simp only [drGo,Option.some.injEq,Prod.mk.injEq] at e
    obtain ⟨rfl,rfl⟩:=e
    exact ⟨[],rfl,Nat.le_refl _,fun _=>rfl,fun _=>rfl,(fun k o h=>by simp at h),(fun p q m _ h=>by simp at h),(fun p q b _ h=>by simp at h),(fun p d _ q m h=>by simp at h)⟩
  | o :: rest,[],i,t,S,acc,t',S',e,_,_,_,_,_=>by simp [drGo] at e
  | o :: rest, m :: ms, i, t, S, acc, t', S', e, hacc, hng, hlim, heff, hfree => by
    have tail:∀{S1:Sx} {t1:Tr VV} {d:Dv},drGo tt ng call lim N ops rest ms (i+1) t1 S1 (acc++ [d])=some (t',S')→S.nb≤S1.nb→(∀b,effB d b=true→b < S1.nb)→(∀b z,S1.f b=some z→b < S1.nb∨S.f b=some z)→
        (∃rs,DrOk P w0 ng ops lim rest ms (i+1) (tvf t1) S1 (acc++ [d]) (tvf t') S' rs):=by
      intro S1 t1 d e1 h1 h2 h3
      refine drGo_ok htt hcall rest ms (i+1) t1 S1 (acc++ [d]) t' S' e1 (by simp [hacc]) (by omega) (by omega) (fun p d' hd b hb=>?_) fun b z hz=>?_
      · rw [List.getElem?_append] at hd
        split at hd
        · have:=heff p d' hd b hb;omega
        · rename_i hp
          have:d'=d:=by
            have:=List.mem_of_getElem? hd
            simpa using this
          subst this
          exact h2 b hb
      · rcases h3 b z hz with h|h
        · exact .inl h
        · rcases hfree b z h with h|h
          · left;omega
          · exact .inr h
    unfold drGo at e
    split at e
    · rename_i hw
      split at e
      · rename_i hc
        split at e
        · rename_i hcalm
          split at e
          · rename_i v S1 he
            split at e
            · rename_i t1 hput
              obtain ⟨l,hl,hle,hfull⟩:∃l,evOpr tt ng call l S (evV (tvf t)) o=some (v,S1)∧(lim≤l∧l≤S.nb)∧(l=S.nb∨(allB m i && laterB i ms)=true):=by
                split at he
                · rename_i hb;exact ⟨lim,he,⟨Nat.le_refl _,hlim⟩,.inr hb⟩
                · exact ⟨S.nb,he,⟨hlim,Nat.le_refl _⟩,.inl rfl⟩
              obtain ⟨h1,h2,h3⟩:=evOpr_sound htt hcall hng hle.2 hl
              obtain ⟨rs,D⟩:=tail e h1 (fun b hb=>by
                rcases effB_iff.1 hb with h|h
                · cases h
                · exact h.2) (fun b z hz=>by
                by_cases hb:l≤b∧b < S1.nb
                · exact .inl hb.2
                · right;rw [←h2 b hb];exact hz)
              refine ⟨_,D.cons hacc h1 (fun hi hhi=>⟨rfl,fun ρ tmps h=>wantB_slots hw h,fun _=>stepR_call htt hcall hng hle.2 hl,(fun h=>by cases h),fun b z _ hz=>hz,fun b hb=>?_,fun b hb=>?_⟩) (fun n=>putT_tvf hput n) (fun b=>?_) (fun b hb=>(rng_iff.1 hb).2) ?_ (fun b z _ hz=>?_) fun p d' hd hb b=>⟨fun he'=>?_,fun hb'=>?_⟩⟩
              · have:=rng_iff.1 hb
                exact ⟨rng_iff.2 ⟨Nat.le_trans hle.2 this.1,this.2⟩,this.1,Nat.lt_of_lt_of_le this.2 hhi⟩
              · have:=rng_iff.1 hb
                exact ⟨Nat.le_trans hle.1 this.1,Nat.lt_of_lt_of_le this.2 hhi⟩
              · dsimp only
                split
                · rfl
                · rename_i hb;exact h2 b fun h=>hb (rng_iff.2 h)
              · rcases hfull with h|h
                · left
                  intro b hb
                  have:=rng_iff.1 hb
                  exact effB_iff.2 (.inr ⟨by rw [←h];exact this.1,this.2⟩)
                · right
                  intro q m' hq
                  exact laterB_get (and_t h).2 q m' hq
              · refine ⟨hfree b z hz,fun l hl=>by cases hl⟩
              · have:=calmB_get hcalm p d' hd (by rwa [Nat.zero_add])
                unfold noEff at this
                obtain ⟨g1,g2⟩:=and_t this
                rcases effB_iff.1 he' with h|h
                · rw [h] at g1;cases g1
                · have:=le_t g2;omega
              · have:=rng_iff.1 hb'
                rcases hfull with h|h
                · left;omega
                · have hp:p < i:=by have:=(List.getElem?_eq_some_iff.1 hd).1;omega
                  rw [allB_get (and_t h).1 p hp] at hb;cases hb
            · cases e
          · cases e
        · cases e
      · rename_i hc
        split at e
        · rename_i v u he
          split at e
          · rename_i S1 hap
            split at e
            · rename_i t1 hput hold
              obtain ⟨a1,a2,a3⟩:=ap_eq hap
              obtain ⟨g1,g2⟩:=evOp2_sound (P:=P) (w0:=w0) htt hng he
              have hnb:S.nb≤S1.nb:=by rw [a2];cases u <;> simp [Up.nb]
              have hm:∀b,modU S.nb u b=true→lim≤b∧b < S1.nb:=fun b hb=>by
                unfold modU at hb
                rcases or_t hb with h|h
                · have h:=isOld_iff.1 h
                  exact ⟨(g2 b h).1,Nat.lt_of_lt_of_le (a3 b h) hnb⟩
                · have:=rng_iff.1 h
                  rw [a2];exact ⟨by omega,this.2⟩
              obtain ⟨rs,D⟩:=tail e hnb (fun b hb=>by
                rcases effB_iff.1 hb with h|h
                · exact Nat.lt_of_lt_of_le (a3 b h) hnb
                · exact h.2) (fun b z hz=>by
                rw [a1] at hz
                by_cases hb:modU S.nb u b=true
                · exact .inl (hm b hb).2
                · rw [up_keep hb] at hz;exact .inr hz)
              refine ⟨_,D.cons hacc hnb (r:=⟨o.dst,true,v,viewF S m acc (rdO (evV (tvf t)) o),u.h S.nb (viewF S m acc (rdO (evV (tvf t)) o)),modU S.nb u,fun b=>Nat.ble S.nb b && Nat.ble (b+1) S1.nb⟩) (fun hi hhi=>⟨rfl,fun ρ tmps h=>wantB_slots hw h,fun _=>?_,(fun h=>by cases h),fun b z _ hz=>(viewF_some hz).2.2,fun b hb=>?_,fun b hb=>?_⟩) (fun n=>putT_tvf hput n) (fun b=>?_) (fun b hb=>(hm b hb).2) (.inl fun b hb=>?_) (fun b z _ hz=>?_) fun p d' hd hb b=>⟨fun he'=>⟨?_,?_⟩,fun hb'=>?_⟩⟩
              · intro n ro ρ w a K Q hw' hf hop hK
                refine g1 n ro ρ w a K Q hw' hop (fun b hb hb'=>hf b (rng_iff.2 ⟨hb,by rw [a2];exact hb'⟩)) fun v' ρ' w' q1 q2 q3=>hK v' ρ' w' q1 q2 (q3.mono fun b hb=>modU_iff.2 hb)
              · have:=rng_iff.1 hb
                refine ⟨?_,this.1,Nat.lt_of_lt_of_le this.2 hhi⟩
                show modU S.nb u b=true
                unfold modU
                rw [Bool.or_eq_true];right
                rw [←a2];exact hb
              · have:=hm b hb
                exact ⟨this.1,Nat.lt_of_lt_of_le this.2 hhi⟩
              · rw [a1]
                dsimp only
                split
                · rename_i hb;exact up_post hb
                · rename_i hb;exact up_keep hb
              · refine effB_iff.2 ?_
                have hb:modU S.nb u b=true:=hb
                unfold modU at hb
                rcases or_t hb with h|h
                · exact .inl (isOld_iff.1 h)
                · exact .inr (by have:=rng_iff.1 h;rw [←a2] at this;exact this)
              · obtain ⟨k1,k2,k3⟩:=viewF_some hz
                exact ⟨hfree b z k3,fun l hl=>by cases hl;exact k1⟩
              · rintro ⟨_,z,hz⟩
                obtain ⟨_,k2,_⟩:=viewF_some hz
                have:=exclB_get k2 p d' hd (by rwa [Nat.zero_add])
                rw [this] at he';cases he'
              · cases hmm:modU S.nb u b with
                | false=>exact hmm
                | true =>
                  unfold modU at hmm
                  rcases or_t hmm with h|h
                  · rw [isOld_iff.1 h] at hold
                    have:=(and_t hold).2
                    have:exclB m b acc 0=false:=by simpa using this
                    have:=exclB_get this p d' hd (by rwa [Nat.zero_add])
                    rw [this] at he';cases he'
                  · have h1:=rng_iff.1 h
                    have h2:=heff p d' hd b he'
                    omega
              · have hb':modU S.nb u b=true:=hb'
                unfold modU at hb'
                rcases or_t hb' with h|h
                · right
                  rw [isOld_iff.1 h] at hold
                  exact blindB_get (and_t hold).1 p d' hd (by rwa [Nat.zero_add])
                · exact .inl (rng_iff.1 h).1
            · cases e
          · cases e
        · cases e
    · rename_i hw
      split at e
      · rename_i t1 hput
        obtain ⟨rs,D⟩:=tail e (Nat.le_refl _) (fun b hb=>by
          rcases effB_iff.1 hb with h|h
          · cases h
          · have:S.nb≤b∧b < S.nb:=h;omega) (fun b z hz=>.inr hz)
        refine ⟨_,D.cons hacc (Nat.le_refl _) (r:=⟨o.dst,false,.tup [],fun _=>none,fun _=>none,fun _=>false,fun _=>false⟩) (fun hi hhi=>⟨rfl,fun ρ tmps h=>wantB_slots hw h,(fun h=>by cases h),fun _=>⟨rfl,fun _=>rfl⟩,(fun b z h=>by cases h),(fun b h=>by cases h),fun b h=>by cases h⟩) (fun n=>putT_tvf hput n) (fun b=>by simp) (fun b hb=>by cases hb) (.inl fun b hb=>by cases hb) (fun b z h=>by cases h) fun p d' hd hb b=>⟨fun _=>⟨(fun h=>(by cases h.1)),rfl⟩,fun h=>by cases h⟩⟩
      · cases e
    · cases e
end
end Go.Vx
end
section
namespace Go.Vx
open Go.Ax (TtOk TyI nthO nthO_eq backOk backOk_spec ancOf masks masks_append anc_spec slotsOk drawOk constOk looksAt_guard)
open Go.RowKit (Below)
section
variable {P:Program} {w0:World} {ng:Nat} {ops:Array Oper} {lim N:Nat} {tt:TypeId→Option TyI} {call:CallF}
theorem drGo_frame (htt:TtOk P tt) (hcall:CallOk P w0 ng call):∀(rest:List Oper) (ms:List Nat) (i:Nat) (t:Tr VV) (S:Sx) (acc:List Dv) (t':Tr VV) (S':Sx),drGo tt ng call lim N ops rest ms i t S acc=some (t',S')→ng≤S.nb→lim≤S.nb→
    S.nb≤S'.nb∧∀b,¬(lim≤b∧b < S'.nb)→S'.f b=S.f b
  | [], ms, i, t, S, acc, t', S', e, hng, hlim => by
    simp only [drGo,Option.some.injEq,Prod.mk.injEq] at e
    obtain ⟨rfl,rfl⟩:=e
    exact ⟨Nat.le_refl _,fun _ _=>rfl⟩
  | o :: rest,[],i,t,S,acc,t',S',e,_,_=>by simp [drGo] at e
  | o :: rest, m :: ms, i, t, S, acc, t', S', e, hng, hlim => by
    have tail:∀{S1:Sx} {t1:Tr VV} {d:Dv},drGo tt ng call lim N ops rest ms (i+1) t1 S1 (acc++ [d])=some (t',S')→S.nb≤S1.nb→(∀b,¬(lim≤b∧b < S1.nb)→S1.f b=S.f b)→S.nb≤S'.nb∧∀b,¬(lim≤b∧b < S'.nb)→S'.f b=S.f b:=by
      intro S1 t1 d e1 h1 h2
      obtain ⟨h3,h4⟩:=drGo_frame htt hcall rest ms (i+1) t1 S1 (acc++ [d]) t' S' e1 (by omega) (by omega)
      exact ⟨Nat.le_trans h1 h3,fun b hb=>(h4 b hb).trans (h2 b (by omega))⟩
    unfold drGo at e
    split at e
    · split at e
      · split at e
        · split at e
          · rename_i v S1 he
            split at e
            · obtain ⟨l,hl,hle⟩:∃l,evOpr tt ng call l S (evV (tvf t)) o=some (v,S1)∧(lim≤l∧l≤S.nb):=by
                split at he
                · exact ⟨lim,he,⟨Nat.le_refl _,hlim⟩⟩
                · exact ⟨S.nb,he,⟨hlim,Nat.le_refl _⟩⟩
              obtain ⟨h1,h2,_⟩:=evOpr_sound htt hcall hng hle.2 hl
              exact tail e h1 fun b hb=>h2 b (by omega)
            · cases e
          · cases e
        · cases e
      · split at e
        · rename_i v u he
          split at e
          · rename_i S1 hap
            split at e
            · obtain ⟨a1,a2,a3⟩:=ap_eq hap
              obtain ⟨_,g2⟩:=evOp2_sound (P:=P) (w0:=w0) htt hng he
              exact tail e (by rw [a2];cases u <;> simp [Up.nb]) (ap_frame hap hlim fun b hb=>(g2 b hb).1)
            · cases e
          · cases e
        · cases e
    · split at e
      · exact tail e (Nat.le_refl _) fun _ _=>rfl
      · cases e
    · cases e
theorem slots_spec {ms:List Nat} (hsl:slotsOk N ops ms=true) (i:Nat) (o:Oper) (ho:ops[i]?=some o):(∀d,o.dst=some d→d < N)∧
    ∀(j:Nat) (o':Oper) (d:Tmp),ops[j]?=some o'→o'.dst=some d→(i=j∨o.dst≠some d)∧(d∈o.looksAt ops→i=j∨(j < i∧ancOf ms i j=true)∨(i < j∧ancOf ms j i=true)):=by
  simp only [slotsOk,List.all_eq_true] at hsl
  have h:=hsl (o,i) (by rw [List.mem_zipIdx_iff_getElem?];simpa using ho)
  simp only [Bool.and_eq_true] at h
  obtain ⟨⟨⟨h1,_⟩,h2⟩,h3⟩:=h
  refine ⟨fun d hd=>by simpa [hd] using h1,fun j o' d hj hd=>?_⟩
  rw [List.all_eq_true] at h3
  have:=h3 (o',j) (by rw [List.mem_zipIdx_iff_getElem?];simpa using hj)
  simp only [hd,Bool.and_eq_true,Bool.or_eq_true,beq_iff_eq,bne_iff_ne,ne_eq,Bool.not_eq_true',decide_eq_true_eq] at this
  obtain ⟨h4,h5⟩:=this
  refine ⟨h4,fun hm=>?_⟩
  rcases h5 with h5|h5
  · have:(o.looksAt ops).contains d=true:=by simpa using hm
    rw [this] at h5;cases h5
  · exact h5
theorem trOk_dr {t:Nat→VV} {S:Sx} {t':Nat→VV} {S':Sx} {rs:List Rc} (hd:drawOk N ops=true) (hok:okOps ng ops=true) (D:DrOk P w0 ng ops lim ops.toList (masks ops.toList []) 0 t S [] t' S' rs) :
    TrOk P w0 ng N ops t S.f (trf rs) (ancOf (masks ops.toList [])):=by
  simp only [drawOk,Bool.and_eq_true] at hd
  obtain ⟨hbk,hsl⟩:=hd
  have hsz:∀(i:Nat) (o:Oper),ops[i]?=some o→i < ops.size:=fun i o h=>(Array.getElem?_eq_some_iff.1 h).1
  have hget:∀i,i < ops.size→ops[i]?=some ops[i]!:=fun i hi=>by rw [getElem!_pos ops i hi];simp [hi]
  have hok':∀(i:Nat) (o:Oper),ops[i]?=some o→RcOk P w0 ng ops lim o (tAt t (trf rs) tru i) (hAt S.f (trf rs) tru i) S.nb S'.nb (trf rs i):=fun i o ho=>D.ok i o (by rw [Array.getElem?_toList];exact ho)
  have hml:(masks ops.toList []).length=ops.size:=by
    obtain ⟨r,h1,h2⟩:=masks_append ops.toList []
    rw [h1];simpa using h2
  have hmask:∀q p,q < ops.size→∃m,(masks ops.toList [])[q]?=some m∧ancOf (masks ops.toList []) q p=m.testBit p:=fun q p hq=>by
    have:q < (masks ops.toList []).length:=by omega
    refine ⟨(masks ops.toList [])[q],by simp [this],?_⟩
    simp [ancOf,List.getD_eq_getElem?_getD,this]
  have apart:∀p q,p < q→q < ops.size→ancOf (masks ops.toList []) q p=false→Apart (trf rs p) (trf rs q):=fun p q hpq hq ha=>by
    obtain ⟨m,h1,h2⟩:=hmask q p hq
    exact D.pairs p q m hpq (by simpa using hq) h1 (by rw [Nat.zero_add,←h2];exact ha)
  refine ⟨fun i o ho=>(hok' i o ho).dst,fun i o ho=>(hok' i o ho).want,fun i o ho=>(hok' i o ho).step,fun i hi=>(hok' i _ (hget i hi)).skip,fun i b z hi h1 h2=>(hok' i _ (hget i hi)).view b z h1 h2,fun i o ho=>?_,fun i o ho d hd j hj hjd=>?_,fun i j d hi hj h1 h2=>?_,fun i d hi hd'=>?_,fun i j b hi hj hne h1 h2=>?_,fun i b hi hb=>((hok' i _ (hget i hi)).new b hb).1,fun i j b hi hj hij hb=>D.news i j b hij (by simpa using hj) hb,backOk_spec hbk,anc_spec hbk⟩
  · exact okOps_eq hok o (List.mem_of_getElem? (show ops.toList[i]?=some o by rw [Array.getElem?_toList];exact ho))
  · have h3:=(hok' j _ (hget j hj)).dst
    rw [h3] at hjd
    exact ((slots_spec hsl i o ho).2 j _ d (hget j hj) hjd).2 hd
  · rw [(hok' i _ (hget i hi)).dst] at h1
    rw [(hok' j _ (hget j hj)).dst] at h2
    exact ((slots_spec hsl i _ (hget i hi)).2 j _ d (hget j hj) h2).1.resolve_right fun h=>h h1
  · rw [(hok' i _ (hget i hi)).dst] at hd'
    exact (slots_spec hsl i _ (hget i hi)).1 d hd'
  · rcases Nat.lt_or_gt_of_ne hne with hij|hij
    · cases ha:ancOf (masks ops.toList []) j i with
      | true=>exact .inr ⟨hij,rfl⟩
      | false =>
        have hA:=apart i j hij hj ha b
        rcases h2 with h2|h2
        · exact absurd h2 (hA.2 h1)
        · rw [(hA.1 h2).2] at h1;cases h1
    · cases ha:ancOf (masks ops.toList []) i j with
      | true=>exact .inl ⟨hij,rfl⟩
      | false =>
        have hA:=apart j i hij hi ha b
        rcases h2 with h2|h2
        · exact absurd h2 (hA.1 h1).1
        · rw [(hA.1 h1).2] at h2;cases h2
end
section
variable (tt:TypeId→Option TyI) (ng:Nat) (call:CallF) (lim N:Nat)
def evReg (ops:Array Oper) (draw:Bool) (t:Tr VV) (S:Sx):Option (Tr VV×Sx):=match okOps ng ops,draw with
  | true,false=>seqGo tt ng call lim N ops ops.toList t S
  | true, true => match drawOk N ops with
    | true=>drGo tt ng call lim N ops ops.toList (masks ops.toList []) 0 t S []
    | false=>none
  | false,_=>none
end
section
variable {P:Program} {w0:World} {ng:Nat} {lim N:Nat} {tt:TypeId→Option TyI} {call:CallF}
theorem evReg_sound (hm:P.follows .mixedOrders=true) (htt:TtOk P tt) (hcall:CallOk P w0 ng call) {ops:Array Oper} {draw:Bool} {t t':Tr VV} {S S':Sx} (e:evReg tt ng call lim N ops draw t S=some (t',S')) (hng:ng≤S.nb) (hlim:lim≤S.nb) :
    S.nb≤S'.nb∧(∀b,¬(lim≤b∧b < S'.nb)→S'.f b=S.f b)∧∀(id n:Nat) (ro:Option Nat) (ρ:Nat→Ph) (w:World) (a:Act) (Q:Exit→Act→World→Prop),WR w0 ng ρ S.f w→(∀b,S.nb≤b→b < S'.nb→ρ b= .fresh)→TR ρ (tvf t) N a.tmps→
      (∀ρ' w' a',TR ρ' (tvf t') N a'.tmps→a'.defers=a.defers→WR w0 ng ρ' S'.f w'→Eff ρ w ρ' w' (fun b=>lim≤b∧b < S'.nb)→Q .normal a' w')→(Code.region id ops draw).wpIn (WF ro) n P Q a w:=by
  unfold evReg at e
  split at e
  · rename_i hok
    obtain ⟨h1,h2,h3⟩:=seqGo_sound htt hcall (okOps_eq hok) ops.toList 0 t S t' S' e (fun j _=>by simp) hng hlim
    refine ⟨h1,h2,fun id n ro ρ w a Q hw hf ht hQ=>wpIn_region ?_⟩
    have:=h3 n ro ρ w a Q hw hf ht hQ
    rw [←List.range_eq_range'] at this;simpa using this
  · rename_i hok
    split at e
    · rename_i hd
      obtain ⟨h1,h2⟩:=drGo_frame htt hcall _ _ _ _ _ _ _ _ e hng hlim
      refine ⟨h1,h2,fun id n ro ρ w a Q hw hf ht hQ=>?_⟩
      obtain ⟨rs,D⟩:=drGo_ok htt hcall _ _ _ _ _ _ _ _ e rfl hng hlim (fun p d h=>by simp at h) (fun b z hz=>by
        rcases Nat.lt_or_ge b S.nb with h|h
        · exact .inl h
        · rcases Nat.lt_or_ge b S'.nb with h'|h'
          · obtain ⟨k,s,hk,_⟩:=hw.blk b z hz
            rw [hf b h h'] at hk;cases hk
          · exact .inr h')
      have ok:=trOk_dr hd hok D
      have hrc:∀i,i < ops.size→∃o,RcOk P w0 ng ops lim o (tAt (tvf t) (trf rs) tru i) (hAt S.f (trf rs) tru i) S.nb S'.nb (trf rs i):=fun i hi=>⟨ops[i],D.ok i ops[i] (by simp [hi])⟩
      refine region_any hm hw ht ok (fun i b hi hb=>?_) fun ρ' a' w' q1 q2 q3 q4=>hQ ρ' w' a' ?_ q3 ?_ (q4.mono fun b ⟨i,hi,hb⟩=>?_)
      · obtain ⟨o,h⟩:=hrc i hi
        have:=h.new b hb
        exact hf b this.2.1 this.2.2
      · have:tAt (tvf t) (trf rs) (fun _=>true) ops.size=tvf t':=funext fun n=>by have:=D.tEnd n;rw [Array.length_toList] at this;exact this
        rw [←this];exact q2
      · have:hAt S.f (trf rs) (fun _=>true) ops.size=S'.f:=funext fun n=>by have:=D.hEnd n;rw [Array.length_toList] at this;exact this
        rw [←this];exact q1
      · obtain ⟨o,h⟩:=hrc i hi
        exact h.mod b hb
    · cases e
  · cases e
end
end Go.Vx
end
section
namespace Go.Vx
open Go.Ax
open Go.RowKit (Below)
section
variable {F:Fence} {n:Nat} {P:Program} {Q:Exit→Act→World→Prop} {b:Frame} {a:Act} {k:List Item} {cs:List Frame} {w:World}
theorem stepR_scope {c:Code}:step P (lone (b.atR a (.code (.scope c) :: k)) cs w)= .next (lone (b.atR a (.code c :: .inScope c :: k)) cs w):=
  step_lone_go (by simp [stepG,stepG.exec,Frame.atR])
theorem stepR_inScope {c:Code}:step P (lone (b.atR a (.inScope c :: k)) cs w)= .next (lone (b.atR a k) cs w):=
  step_lone_go (by simp [stepG,stepG.exec,Frame.atR])
theorem wpIn_scope {c:Code} (h:c.wpIn F n P (Exit.noGoto Q) a w):(Code.scope c).wpIn F n P Q a w:=by
  intro b k cs hro hb hr
  have h0:(lone (b.atR a (.code (.scope c) :: k)) cs w).fenced P F:=fenced_calm hb hr rfl
  obtain ⟨e,a₁,w₁,hq,harr⟩:=h b (.inScope c :: k) cs hro hb hr
  cases e with
  | normal=>exact ⟨.normal,a₁,w₁,hq,.head h0 stepR_scope (StepsIn.trans harr (.one (fenced_calm hb hr rfl) stepR_inScope))⟩
  | exit id =>
    have hx:exitTo id (.inScope c :: k)=exitTo id k:=by simp [exitTo]
    exact ⟨.exit id,a₁,w₁,hq,fun k' hk=>.head h0 stepR_scope (harr.1 k' (by rw [hx];exact hk)),
      fun hr' hk=>let ⟨k₁,h1,h2⟩:=harr.2 hr' (by rw [hx];exact hk);⟨k₁,h1,.head h0 stepR_scope h2⟩⟩
  | goto l=>exact hq.elim
  | ret=>exact ⟨_,a₁,w₁,hq,.of_steps (.one h0 stepR_scope) harr⟩
  | panic ch=>exact ⟨_,a₁,w₁,hq,.of_steps (.one h0 stepR_scope) harr⟩
  | outgrown=>exact ⟨_,a₁,w₁,hq,.of_steps (.one h0 stepR_scope) harr⟩
end
inductive Ex where
  | norm
  | ret
  | exit (id:Nat)
def Ex.e:Ex→Exit
  | .norm=>.normal
  | .ret=>.ret
  | .exit id=>.exit id
structure Fs where
  t:Tr VV
  ms:List Nat
  S:Sx
def DR (ρ:Nat→Ph):List Nat→List Deferred→Prop
  | [],ds=>ds= []
  | b :: mk, ds => ∃ d r, ds = d :: r ∧ (match ρ b with
    | .fresh=>False
    | .dead=>True
    | .live k _=>d={ target:=.collected k,args:=#[] })∧DR ρ mk r
theorem DR.ext {ρ ρ':Nat→Ph} (h:Ext ρ ρ'):∀{mk:List Nat} {ds:List Deferred},DR ρ mk ds→DR ρ' mk ds
  | [],_,x=>x
  | _ :: _,_,x=>by obtain ⟨d,r,e,h1,h2⟩:=x;exact ⟨d,r,e,ext_match (p:=fun k _=>d={ target:=.collected k,args:=#[] }) h h1,DR.ext h h2⟩
def FR (ρ:Nat→Ph) (N:Nat) (s:Fs) (a:Act):Prop:=TR ρ (tvf s.t) N a.tmps∧DR ρ s.ms a.defers
def RoR (ρ:Nat→Ph) (rnd:Option Nat) (ro:Option Nat):Prop:=match rnd with
  | none=>ro=none
  | some b => match ρ b with
    | .fresh=>False
    | .dead=>True
    | .live k _=>ro=some k
theorem RoR.ext {ρ ρ':Nat→Ph} (h:Ext ρ ρ') {rnd ro:Option Nat} (x:RoR ρ rnd ro):RoR ρ' rnd ro:=by
  cases rnd with
  | none=>exact x
  | some b=>exact ext_match (p:=fun k _=>ro=some k) h x
def CodeOk (P:Program) (w0:World) (ng N lim:Nat) (rnd:Option Nat) (code:Code) (s:Fs) (ex:Ex) (s':Fs):Prop:=
  s.S.nb≤s'.S.nb∧(∀b,¬(lim≤b∧b < s'.S.nb)→s'.S.f b=s.S.f b)∧
    ∀(n:Nat) (ro:Option Nat) (ρ:Nat→Ph) (w:World) (a:Act) (Q:Exit→Act→World→Prop),WR w0 ng ρ s.S.f w→(∀b,s.S.nb≤b→b < s'.S.nb→ρ b= .fresh)→FR ρ N s a→RoR ρ rnd ro→
      (∀ρ' w' a',FR ρ' N s' a'→WR w0 ng ρ' s'.S.f w'→Eff ρ w ρ' w' (fun b=>lim≤b∧b < s'.S.nb)→Q ex.e a' w')→code.wpIn (WF ro) n P Q a w
section
variable {P:Program} {w0:World} {ng N lim:Nat} {rnd:Option Nat}
theorem codeOk_same {code:Code} {s:Fs} {ex:Ex} (h:∀(n:Nat) (ro:Option Nat) (a:Act) (w:World) (Q:Exit→Act→World→Prop),Q ex.e a w→code.wpIn (WF ro) n P Q a w):CodeOk P w0 ng N lim rnd code s ex s:=
  ⟨Nat.le_refl _,fun _ _=>rfl,fun n ro ρ w a Q hw _ hf _ hQ=>h n ro a w Q (hQ ρ w a hf hw (Eff.refl _ _ _))⟩
theorem codeOk_seq {x y:Code} {s s1 s':Fs} {ex:Ex} (h1:CodeOk P w0 ng N lim rnd x s .norm s1) (h2:CodeOk P w0 ng N lim rnd y s1 ex s'):CodeOk P w0 ng N lim rnd (.seq x y) s ex s':=by
  obtain ⟨a1,a2,a3⟩:=h1
  obtain ⟨b1,b2,b3⟩:=h2
  refine ⟨Nat.le_trans a1 b1,fun b hb=>(b2 b hb).trans (a2 b (by omega)),fun n ro ρ w a Q hw hf hF hR hQ=>wpIn_seq ?_⟩
  refine a3 n ro ρ w a _ hw (fun b h h'=>hf b h (by omega)) hF hR fun ρ' w' a' q1 q2 q3=>?_
  refine b3 n ro ρ' w' a' Q q2 (fun b h h'=>(q3.same b (by omega)).trans (hf b (by omega) h')) q1 (hR.ext q3.ext) fun ρ'' w'' a'' p1 p2 p3=>?_
  exact hQ ρ'' w'' a'' p1 p2 ((q3.mono fun b hb=>⟨hb.1,by omega⟩).trans p3)
theorem codeOk_seq_out {x y:Code} {s s':Fs} {ex:Ex} (hne:ex≠.norm) (h1:CodeOk P w0 ng N lim rnd x s ex s'):CodeOk P w0 ng N lim rnd (.seq x y) s ex s':=by
  obtain ⟨a1,a2,a3⟩:=h1
  refine ⟨a1,a2,fun n ro ρ w a Q hw hf hF hR hQ=>wpIn_seq ?_⟩
  refine a3 n ro ρ w a _ hw hf hF hR fun ρ' w' a' q1 q2 q3=>?_
  have:=hQ ρ' w' a' q1 q2 q3
  cases ex with
  | norm=>exact absurd rfl hne
  | ret=>exact this
  | exit id=>exact this
theorem codeOk_cond {c:Operand} {x y:Code} {s s':Fs} {ex:Ex} {b:Bool} (hc:okOpd ng c=true) (hv:evV (tvf s.t) c= .s (.bool b)) (h:CodeOk P w0 ng N lim rnd (if b then x else y) s ex s'):CodeOk P w0 ng N lim rnd (.cond c x y) s ex s':=by
  obtain ⟨a1,a2,a3⟩:=h
  refine ⟨a1,a2,fun n ro ρ w a Q hw hf hF hR hQ=>?_⟩
  have:=evV_sound hw hF.1 c hc
  rw [hv] at this
  exact wpIn_cond this.1 (a3 n ro ρ w a Q hw hf hF hR hQ)
theorem codeOk_block {id:Nat} {x:Code} {s s':Fs} {ex ex':Ex} (h:CodeOk P w0 ng N lim rnd x s ex s') (he:(ex= .exit id∧ex'= .norm)∨(ex≠.exit id∧ex'=ex)):CodeOk P w0 ng N lim rnd (.block id x) s ex' s':=by
  obtain ⟨a1,a2,a3⟩:=h
  refine ⟨a1,a2,fun n ro ρ w a Q hw hf hF hR hQ=>wpIn_block ?_⟩
  refine a3 n ro ρ w a _ hw hf hF hR fun ρ' w' a' q1 q2 q3=>?_
  have:=hQ ρ' w' a' q1 q2 q3
  rcases he with ⟨rfl,rfl⟩|⟨h1,rfl⟩
  · simp only [Ex.e,Exit.inBlock,if_true];exact this
  · cases ex' with
    | norm=>exact this
    | ret=>exact this
    | exit i =>
      have:¬i=id:=fun e=>h1 (by rw [e])
      simp only [Ex.e,Exit.inBlock,this,if_false];assumption
theorem codeOk_scope {x:Code} {s s':Fs} {ex:Ex} (h:CodeOk P w0 ng N lim rnd x s ex s'):CodeOk P w0 ng N lim rnd (.scope x) s ex s':=by
  obtain ⟨a1,a2,a3⟩:=h
  refine ⟨a1,a2,fun n ro ρ w a Q hw hf hF hR hQ=>wpIn_scope ?_⟩
  refine a3 n ro ρ w a _ hw hf hF hR fun ρ' w' a' q1 q2 q3=>?_
  have:=hQ ρ' w' a' q1 q2 q3
  cases ex <;> exact this
def iterC (f:Fs→Option (Ex×Fs)):Nat→Fs→Option (Ex×Fs)
  | 0,_=>none
  | n + 1, s => match f s with
    | some (.norm,s')=>iterC f n s'
    | some (e,s')=>some (e,s')
    | none=>none
theorem codeOk_loop {x:Code} {f:Fs→Option (Ex×Fs)} (hf:∀s ex s',ng≤s.S.nb→lim≤s.S.nb→f s=some (ex,s')→CodeOk P w0 ng N lim rnd x s ex s') {m:Nat} {s s':Fs} {ex:Ex} (hng:ng≤s.S.nb) (hlim:lim≤s.S.nb) (e:iterC f m s=some (ex,s')):CodeOk P w0 ng N lim rnd (.loop x) s ex s':=by
  have key:∀(m:Nat) (s s':Fs) (ex:Ex),ng≤s.S.nb→lim≤s.S.nb→iterC f m s=some (ex,s')→s.S.nb≤s'.S.nb∧(∀b,¬(lim≤b∧b < s'.S.nb)→s'.S.f b=s.S.f b)∧
      ∀(n:Nat) (ro:Option Nat) (ρ:Nat→Ph) (w:World) (a:Act) (Q:Exit→Act→World→Prop),WR w0 ng ρ s.S.f w→(∀b,s.S.nb≤b→b < s'.S.nb→ρ b= .fresh)→FR ρ N s a→RoR ρ rnd ro→
        (∀ρ' w' a',FR ρ' N s' a'→WR w0 ng ρ' s'.S.f w'→Eff ρ w ρ' w' (fun b=>lim≤b∧b < s'.S.nb)→Q ex.e a' w')→Code.roundsIn (WF ro) n P x Q m a w:=by
    intro m
    induction m with
    | zero=>intro s s' ex _ _ e;cases e
    | succ m ih =>
      intro s s' ex hng hlim e
      simp only [iterC] at e
      split at e
      · rename_i s1 hs
        obtain ⟨a1,a2,a3⟩:=hf _ _ _ hng hlim hs
        obtain ⟨b1,b2,b3⟩:=ih s1 s' ex (by omega) (by omega) e
        refine ⟨Nat.le_trans a1 b1,fun b hb=>(b2 b hb).trans (a2 b (by omega)),fun n ro ρ w a Q hw hf' hF hR hQ=>?_⟩
        show x.wpIn _ n P (Exit.then (Code.roundsIn _ n P x Q m) Q) a w
        refine a3 n ro ρ w a _ hw (fun b h h'=>hf' b h (by omega)) hF hR fun ρ' w' a' q1 q2 q3=>?_
        refine b3 n ro ρ' w' a' Q q2 (fun b h h'=>(q3.same b (by omega)).trans (hf' b (by omega) h')) q1 (hR.ext q3.ext) fun ρ'' w'' a'' p1 p2 p3=>?_
        exact hQ ρ'' w'' a'' p1 p2 ((q3.mono fun b hb=>⟨hb.1,by omega⟩).trans p3)
      · rename_i ex1 s1 hs hne
        simp only [Option.some.injEq,Prod.mk.injEq] at e
        obtain ⟨rfl,rfl⟩:=e
        obtain ⟨a1,a2,a3⟩:=hf _ _ _ hng hlim hne
        refine ⟨a1,a2,fun n ro ρ w a Q hw hf' hF hR hQ=>?_⟩
        show x.wpIn _ n P (Exit.then (Code.roundsIn _ n P x Q m) Q) a w
        refine a3 n ro ρ w a _ hw hf' hF hR fun ρ' w' a' q1 q2 q3=>?_
        have:=hQ ρ' w' a' q1 q2 q3
        cases ex1 with
        | norm=>exact absurd rfl hs
        | ret=>exact this
        | exit id=>exact this
      · cases e
  obtain ⟨h1,h2,h3⟩:=key m s s' ex hng hlim e
  exact ⟨h1,h2,fun n ro ρ w a Q hw hf hF hR hQ=>wpIn_loop_rounds m (h3 n ro ρ w a Q hw hf hF hR hQ)⟩
end
end Go.Vx
end
section
namespace Go.Vx
open Go.Ax
open Go.RowKit (Below)
theorem wrote_put (w:World) (k:Nat) (o:Obj):Wrote k w (w.putObj k o):=
  ⟨rfl,rfl,rfl,by simp,fun j _ hne=>World.putObj_heap_other hne⟩
def jumpX:Option Code→Option Ex
  | none=>some .norm
  | some .ret=>some .ret
  | some (.exit id)=>some (.exit id)
  | _=>none
theorem ext_live {ρ ρ':Nat→Ph} (h:Ext ρ ρ') {b k s k' s':Nat} (h1:ρ b= .live k s) (h2:ρ' b= .live k' s'):k'=k∧s'=s:=by
  rcases (h b).1 k s h1 with h3|h3
  · rw [h3] at h2;cases h2;exact ⟨rfl,rfl⟩
  · rw [h3] at h2;cases h2
section
variable {P:Program} {w0:World} {ng N lim:Nat} {rnd:Option Nat} {call:CallF}
theorem codeOk_range {g:Operand} {ps:Array Tmp} {asg body:Code} {s:Fs} {gg:FuncId} {us vs:List VV} {S1 S2 S3:Sx} {ms1:List Nat} {lb:Nat} {r:VV} {st:LoopState} {pend:Option Code} {t0:Tr VV} {N0:Nat} {ps0:Array Tmp} {asg0 body0:Code} {ex:Ex}
    (hcall:CallOk P w0 ng call) (hg:okOpd ng g=true) (hgv:evV (tvf s.t) g= .fn (.func gg) us vs) (hfn:Callable P gg) (hng:ng≤s.S.nb) (hlim:lim≤s.S.nb) (hnb1:s.S.nb≤S1.nb) (hlb:s.S.nb≤lb∧lb < S1.nb)
    (hfr:∀b,¬(s.S.nb≤b∧b < S1.nb)→S1.f b=s.S.f b) (hc:call (.f gg) (us++ [.yl lb]++vs) lim S1=some (r,S2)) (hl:S2.f lb=some (.loop st pend t0 N0 ps0 asg0 body0)) (hst:st≠.busy) (hj:jumpX pend=some ex)
    (hS3:S3.f=setB S2.f lb (some (.loop .exhausted pend t0 N0 ps0 asg0 body0))) (hS3n:S3.nb=S2.nb)
    (hent:∀(ro:Option Nat) (ρ:Nat→Ph) (w:World) (a:Act) (fn:FuncId),WR w0 ng ρ s.S.f w→(∀b,s.S.nb≤b→b < S1.nb→ρ b= .fresh)→FR ρ N s a→RoR ρ rnd ro→
      ∃l mark w1 ρ1 sz,(Instr.enterLoop fn a.tmps ps asg body ro).run P w= .ok (l,mark) w1∧WR w0 ng ρ1 S1.f w1∧Eff ρ w ρ1 w1 (fun b=>s.S.nb≤b∧b < S1.nb)∧ρ1 lb= .live l sz∧DR ρ1 ms1 (mark++a.defers)) :
    CodeOk P w0 ng N lim rnd (.rangeFunc g ps asg body) s ex ⟨s.t,ms1,S3⟩:=by
  obtain ⟨c1,c2,c3⟩:=hcall _ _ _ _ _ _ hc (Nat.le_trans hng hnb1) (Nat.le_trans hlim hnb1)
  have hn3:s.S.nb≤S3.nb:=by omega
  refine ⟨hn3,fun b hb=>?_,fun n ro ρ w a Q hw hf hF hR hQ=>wpIn_rangeFunc fun fn _=>?_⟩
  · have hb:¬(lim≤b∧b < S3.nb):=hb
    show S3.f b=_
    have hne:b≠lb:=fun e=>hb (by subst e;omega)
    rw [hS3]
    simp only [setB,hne,if_false]
    rw [c2 b (by omega),hfr b (by omega)]
  · have hf:∀b,s.S.nb≤b→b < S3.nb→ρ b= .fresh:=hf
    obtain ⟨l,mark,w1,ρ1,sz,e1,e2,e3,e4,e5⟩:=hent ro ρ w a fn hw (fun b h h'=>hf b h (by omega)) hF hR
    have hgR:=evV_sound hw hF.1 g hg
    rw [hgv] at hgR
    obtain ⟨xs,ys,g1,g2,g3⟩:=hgR
    have hargs:Rs ρ1 (us++ [.yl lb]++vs) (xs++ [Value.func (.yield l) #[] #[]]++ys):=by
      have hy:Rs ρ1 [.yl lb] [Value.func (.yield l) #[] #[]]:=⟨_,[],rfl,⟨rfl,by rw [e4]⟩,rfl⟩
      exact ((g2.ext e3.ext).append hy).append (g3.ext e3.ext)
    have hup:=c3 n ro ρ1 w1 _ _ e2 (fun b h h'=>(e3.same b (by omega)).trans (hf b (by omega) (by omega))) hargs (show TgR ρ1 _ (callFunc gg _) (.f gg) from rfl) ⟨none,.move (.const undef),0,"",#[],none⟩ a
      (fun _ w''=>∃v,Ret w0 ng ρ1 w1 lim S2 r v w'') (fun _ _ _=>False) (fun v w' h=>⟨v,h⟩)
    rw [run_enter hfn] at hup
    obtain ⟨u1,u2⟩:=hup
    refine ⟨l,mark,w1,{ target:=.fn (.func gg) ys.toArray,args:=xs.toArray++#[Value.func (.yield l) #[] #[]] },w1,gg,(xs++ [Value.func (.yield l) #[] #[]]++ys).toArray,w1,e1,?_,fun _ _=>trivial,?_,u1,?_⟩
    · have ea:(#[Operand.const (Value.func (.yield l) #[] #[])].map a.eval)=#[Value.func (.yield l) #[] #[]]:=by simp [Act.eval]
      simp only [resolve,ea,g1,Deferred.ofValue,Sem.run_pure]
    · have:(xs.toArray++#[Value.func (.yield l) #[] #[]])++ys.toArray=(xs++ [Value.func (.yield l) #[] #[]]++ys).toArray:=by apply Array.ext';simp
      simp only [invoke,this]
      exact run_enter hfn _ _
    · refine CallsIn.mono u2 fun e w3 h=>?_
      cases e with
      | panicked ch=>exact h.elim
      | outgrown=>obtain ⟨_,_,h⟩:=h;exact h.elim
      | returned v =>
        obtain ⟨v',ρ',q1,q2,q3⟩:=h
        obtain ⟨k,s',k1,k2⟩:=q2.blk lb _ hl
        obtain ⟨hk,_⟩:=ext_live q3.ext e4 k1
        subst hk
        obtain ⟨rr,b1,b2,b3,b4,b5,b6,b7⟩:=k2
        have hend:=run_endLoop (P:=P) b1 (by rw [b2];exact hst)
        refine ⟨rr.pending,_,hend,?_⟩
        have hput:(w3.putObj k (.loop { rr with state:=.exhausted })).heap[k]?=some (.loop { rr with state:=.exhausted }):=World.putObj_heap_same (q2.lt lb k s' k1)
        obtain ⟨t1,t2⟩:=wr_set q2 k1 (by omega) (wrote_put w3 k (.loop { rr with state:=.exhausted })) (z:=.loop .exhausted pend t0 N0 ps0 asg0 body0) ⟨_,hput,rfl,b3,b4,b5,b6,b7⟩
        have hE:Eff ρ w ρ' (w3.putObj k (.loop { rr with state:=.exhausted })) (fun b=>lim≤b∧b < S3.nb):=by
          refine (e3.mono fun b hb=>⟨by omega,by omega⟩).trans ((q3.mono fun b hb=>⟨hb.1,by omega⟩).trans (t2.mono fun b hb=>?_))
          have hb:b=lb:=hb
          subst hb;omega
        have hFin:Q ex.e { a with defers:=mark++a.defers } (w3.putObj k (.loop { rr with state:=.exhausted })):=by
          refine hQ ρ' _ _ ⟨⟨hF.1.1,fun m=>(hF.1.2 m).ext (e3.ext.trans q3.ext)⟩,e5.ext q3.ext⟩ ?_ hE
          show WR w0 ng ρ' S3.f _
          rw [hS3];exact t1
        revert hFin
        rw [b3]
        intro hFin
        cases pend with
        | none=>cases hj;exact hFin
        | some c =>
          cases c <;> first
            | (cases hj;done)
            | (cases hj;exact wpIn_ret hFin)
            | (cases hj;exact wpIn_exit hFin)
end
end Go.Vx
end
