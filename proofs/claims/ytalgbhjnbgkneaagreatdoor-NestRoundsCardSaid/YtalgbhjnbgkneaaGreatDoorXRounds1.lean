/- Further lemmas on the program, part Rounds1. -/
import Derived.Test.YtalgbhjnbgkneaaGreatDoorZM1
set_option linter.unusedVariables false
set_option linter.unusedSimpArgs false
section
namespace Go.Proofs
open Go.Ax
section
variable {P:Program} {G':World→Prop} {nb0:Nat} {ops:Array Oper} {H:Oper→List Oper→St→List Sh→Prop} {out out':Out} {K:St→List Sh→Prop} {x y:AV} {T E:Prop} {eo eo':Option (List Prop×AV)} {r:AV} {st:St}
theorem zwa1 {l:List (Nat×AV)} {hs:List (Nat×Box)} {nb nb0:Nat} {l1:List (AV×AV)} {h1:List (Nat×Option Box×Box)} (a:SlotsOk nb l1) (b:BoxesOk nb h1) (e1:Is (slotPairs st.t l) l1:=by first|(dsimp only [valsOf,ksOk,kOk,eqVs,eqV,partsL,absGo,absGg_none,absGg_some,absGn_some,absGd_b,absGd_u,absRes_val,absRes_ok,absRes_call,absRes_hand,absRes_bad,nthO,absOne,pickAV,sameK,absOp,absCall,onesOf,boxOf,List.all,evAt,AV.leaves,St.step,St.put,St.eff,stOf,slots,slotL,boxes,boxL,slotPairs,boxPairs,sizes,Leaf.size,upd,hupd,noBox,nthA,Eff.sh,constOk,subL,dropL,takeL,setL,mkAV,nilS,Box.put,Bool.not_true,Bool.not_false,Option.bind_some,Option.bind_none,Option.map_some,Option.map_none,List.getElem?_toArray,List.getElem?_cons_zero,List.getElem?_cons_succ,List.map,List.map_cons,List.map_nil,List.cons_append,List.nil_append,List.append_nil,List.all_cons,List.all_nil,List.length_cons,List.length_nil,List.flatMap_nil,resO,oneOr,Value.oneCell',lenA,idxA,binV,intBin,unV,convV,buildL,partOffs,partsOk,rowLeaves,optInt,Leaf.clB,Option.getD_some,Option.getD_none,Bool.and_true,Bool.true_and,Bool.and_self,and,Bool.not_true,Bool.not_false,Nat.reduceAdd,Nat.reduceSub,Nat.reduceMul,Nat.reduceBEq,Nat.reduceLT,reduceIte,Nat.zero_add,Nat.add_zero,Int.reduceToNat,Int.toNat_natCast,Nat.beq,Nat.ble,appOf,sliceOf,St.appG,St.app,St.appI,kill,killL,kills,killBox,frz,frzL,frzL.frzLs,frzs,frzBox,hfrz,ite00,tt_2,tt_3,tt_4,tt_5,tt_9,tt_21,tt_22,tt_24,tt_25,tt_26,tt_29,tt_51,tt_61,tt_67,tt_79,tt_80,tt_87,tt_95,tt_111,tt_114,tt_116,tt_125,tt_127,tt_129,tt_130,tt_132,tt_134,tt_140,tt_150,tt_155,tt_157,tt_159,tt_161,tt_170,tt_178,tt_182,tt_183,tt_184,tt_196,tt_208,tt_212,tt_214,tt_226,tt_228,tt_231,tt_240,tt_247,tt_248,tt_253,tt_254,tt_256,tt_267,tt_274,tt_291,tt_298,tt_302,tt_312,tt_316,tt_327,tt_330,tt_331,tt_337,tt_338,tt_339];with_reducible exact Is.refl _)|exact Is.refl _) (e2:Is (boxPairs st.h hs) h1:=by first|(dsimp only [valsOf,ksOk,kOk,eqVs,eqV,partsL,absGo,absGg_none,absGg_some,absGn_some,absGd_b,absGd_u,absRes_val,absRes_ok,absRes_call,absRes_hand,absRes_bad,nthO,absOne,pickAV,sameK,absOp,absCall,onesOf,boxOf,List.all,evAt,AV.leaves,St.step,St.put,St.eff,stOf,slots,slotL,boxes,boxL,slotPairs,boxPairs,sizes,Leaf.size,upd,hupd,noBox,nthA,Eff.sh,constOk,subL,dropL,takeL,setL,mkAV,nilS,Box.put,Bool.not_true,Bool.not_false,Option.bind_some,Option.bind_none,Option.map_some,Option.map_none,List.getElem?_toArray,List.getElem?_cons_zero,List.getElem?_cons_succ,List.map,List.map_cons,List.map_nil,List.cons_append,List.nil_append,List.append_nil,List.all_cons,List.all_nil,List.length_cons,List.length_nil,List.flatMap_nil,resO,oneOr,Value.oneCell',lenA,idxA,binV,intBin,unV,convV,buildL,partOffs,partsOk,rowLeaves,optInt,Leaf.clB,Option.getD_some,Option.getD_none,Bool.and_true,Bool.true_and,Bool.and_self,and,Bool.not_true,Bool.not_false,Nat.reduceAdd,Nat.reduceSub,Nat.reduceMul,Nat.reduceBEq,Nat.reduceLT,reduceIte,Nat.zero_add,Nat.add_zero,Int.reduceToNat,Int.toNat_natCast,Nat.beq,Nat.ble,appOf,sliceOf,St.appG,St.app,St.appI,kill,killL,kills,killBox,frz,frzL,frzL.frzLs,frzs,frzBox,hfrz,ite00,tt_2,tt_3,tt_4,tt_5,tt_9,tt_21,tt_22,tt_24,tt_25,tt_26,tt_29,tt_51,tt_61,tt_67,tt_79,tt_80,tt_87,tt_95,tt_111,tt_114,tt_116,tt_125,tt_127,tt_129,tt_130,tt_132,tt_134,tt_140,tt_150,tt_155,tt_157,tt_159,tt_161,tt_170,tt_178,tt_182,tt_183,tt_184,tt_196,tt_208,tt_212,tt_214,tt_226,tt_228,tt_231,tt_240,tt_247,tt_248,tt_253,tt_254,tt_256,tt_267,tt_274,tt_291,tt_298,tt_302,tt_312,tt_316,tt_327,tt_330,tt_331,tt_337,tt_338,tt_339];with_reducible exact Is.refl _)|exact Is.refl _) (e3:Nat.ble nb0 nb=true:=by rfl):Weaker nb0 st (stOf l hs nb):=
  weaker_of (by have e1:_=_:=e1;rw [e1];exact a) (by have e2:_=_:=e2;rw [e2];exact b) e3
end
section
variable {c:Ctx} {Q:Exit→St→Prop} {st:St}
end
section
variable {G':World→Prop} {nb0:Nat} {ops:Array Oper} {H:Oper→List Oper→St→List Sh→Prop} {K:St→List Sh→Prop} {ps:List Prop} {rest:List Oper} {st:St} {sh:List Sh}
end
section
variable {P:Program} {G':World→Prop} {nb0:Nat} {ops:Array Oper} {H:Oper→List Oper→St→List Sh→Prop} {K:St→List Sh→Prop} {ps:List Prop} {rest:List Oper} {st:St} {sh:List Sh} {tt:TypeId→Option TyI} {o:Oper} {d:Nat}
end
section
variable {T E:Prop}
end
section
variable {c:Ctx} {st:St}
end
end Go.Proofs
end
section
set_option maxHeartbeats 4000000
set_option maxRecDepth 100000
namespace Go.Proofs
open Go.Ax
theorem c_sizes1 (a:Int):Ax.Pure Tryz.prog G 110 [.one (.row 1 1 (fun i=> [[Leaf.v (.int .i64 a)]].getD i []))] (N (errL [a])):=
  pure_args (c_sizes [a] (show 1≤1000000 by decide)) ⟨sub_row_list [a],trivial⟩ ⟨trivial,trivial⟩
theorem c_sizes3 (a b c:Int):Ax.Pure Tryz.prog G 110 [.one (.row 1 3 (fun i=> [[Leaf.v (.int .i64 a)],[Leaf.v (.int .i64 b)],[Leaf.v (.int .i64 c)]].getD i []))] (N (errL [a,b,c])):=
  pure_args (c_sizes [a,b,c] (show 3≤1000000 by decide)) ⟨sub_row_list [a,b,c],trivial⟩ ⟨trivial,trivial⟩
def fitB (w h d:Int):Bool:=decide (w*w+h*h≤d*d)
theorem sq_in {n:Int} (h:1≤n∧n≤10000):0≤n*n∧n*n≤100000000:=
  ⟨Int.mul_nonneg (by omega) (by omega),Int.mul_le_mul h.2 h.2 (by omega) (by omega)⟩
theorem c_Fits (w h d:Int):Ax.Pure Tryz.prog G 49 [N w,N h,N d] (.tup [Bo (if errL [w,h,d]=0 then fitB w h d else false),N (errL [w,h,d])]):=by
  have c_s:=c_sizes3 w h d
  have hr:errL [w,h,d]=0→IntKind.i64.wrap (IntKind.i64.wrap (w*w)+IntKind.i64.wrap (h*h))=w*w+h*h∧IntKind.i64.wrap (d*d)=d*d:=fun e=>by
    have ho:=errL_ok e
    have h1:=sq_in (ho w (by simp))
    have h2:=sq_in (ho h (by simp))
    have h3:=sq_in (ho d (by simp))
    rw [w64 (x:=w*w) (by omega) (by omega),w64 (x:=h*h) (by omega) (by omega),w64 (x:=d*d) (by omega) (by omega),w64 (by omega) (by omega)]
    exact ⟨rfl,rfl⟩
  refine zen Tryz.func49 rfl Tryz.ntmps49 ?_
  intro w0 E0 hc
  repeat' (first|refine zR1 hc Tryz.results49 ?_|(with_reducible first|exact trivial|refine zan ?_ ?_|refine zim (fun h=>?_)|refine zoc c_s ?_ ?_|fail)|(omega;done))
  · rw [if_neg h];exact Sub.refl _
  · obtain ⟨e1,e2⟩:=hr h
    rw [if_pos h,e1,e2,h];exact Sub.refl _
theorem c_Highest (d w:Int):Ax.Pure Tryz.prog G 50 [N d,N w] (.tup [N (if errL [d,w]=0 then ((sid d.toNat w.toNat:Nat):Int) else 0),N (if errL [d,w]=0 then (if sid d.toNat w.toNat=0 then 7 else 0) else 3)]):=by
  have c_s:=c_sizes2 d w
  have c_h:errL [d,w]=0→Ax.Pure Tryz.prog G 111 [N d,N w] (N (sid d.toNat w.toNat)):=fun e=>by
    have ho:=errL_ok e
    have h1:=ho d (by simp)
    have h2:=ho w (by simp)
    have:=c_side d.toNat w.toNat (by omega) (by omega)
    rwa [Int.toNat_of_nonneg (by omega),Int.toNat_of_nonneg (by omega)] at this
  have hw:=errL_or [d,w]
  refine zen Tryz.func50 rfl Tryz.ntmps50 ?_
  intro w0 E0 hc
  repeat' (first|refine zR1 hc Tryz.results50 ?_|(with_reducible first|exact trivial|refine zan ?_ ?_|refine zim (fun h=>?_)|refine zoc c_s ?_ ?_|refine zoc (c_h ?_) ?_ ?_|refine zoc (c_nwhen _ _) ?_ ?_|fail)|(omega;done))
  · rw [if_neg h,if_neg h,hw.resolve_left h];exact Sub.refl _
  · rw [if_pos h,if_pos h]
    exact sub_eq (by simp)
def stg (d:Nat) (w:Int):Int:=w*(sid d w.toNat)*(sid d w.toNat)
theorem c_stg (d w:Nat) (hd:d≤10000) (hw:w≤10000):Ax.Pure Tryz.prog G 112 [N w,.one (.pp [.v (.int .i64 d)])] (N (stg d w)):=by
  have c_s:=c_side d w hd hw
  have hs:=sid_le d w
  have m1:w*sid d w≤100000000:=Nat.mul_le_mul hw (show sid d w≤10000 by omega)
  have m2:w*sid d w*sid d w≤1000000000000:=Nat.mul_le_mul m1 (show sid d w≤10000 by omega)
  have w1:IntKind.i64.wrap (IntKind.i64.wrap ((w:Int)*(sid d w:Nat))*(sid d w:Nat))=stg d w:=by
    rw [←Int.natCast_mul,w64n (by omega),←Int.natCast_mul,w64n (by omega)]
    unfold stg
    rw [Int.toNat_natCast]
    simp
  refine zen Tryz.func112 rfl Tryz.ntmps112 ?_
  intro w0 E0 hc
  repeat' (first|refine zR1 hc Tryz.results112 ?_|(with_reducible first|exact trivial|refine zan ?_ ?_|refine zim (fun h=>?_)|refine zoc c_s ?_ ?_|fail)|(omega;done))
  all_goals exact sub_eq (congrArg N w1)
theorem c_bestI (g:Int→Int) (f:Nat) (d:Int) (l:List Int) (hl:l.length≤1000000) (c_f:∀i,i < l.length→Ax.Pure Tryz.prog G f [N (l.getD i 0),.one (.pp [.v (.int .i64 d)])] (N (g (l.getD i 0)))):Ax.Pure Tryz.prog G 103 [L64 l,.one (.fn (.func f) [] [.pp [.v (.int .i64 d)]])] (.tup [N (bst g l (0,0)).1,Bo (decide (0 < (bst g l (0,0)).2))]):=by
  refine zen Tryz.func103 rfl Tryz.ntmps103 ?_
  intro w0 E0 hc
  repeat' (first|refine zR1 hc Tryz.results103 ?_|(with_reducible first|exact trivial|refine zan ?_ ?_|refine zim (fun h=>?_)|fail)|(omega;done))
  refine Wp_loopI (α:=Nat×Int×Int) (fun p=>stOf [(0,L64 l),(1,.one (.fn (.func f) [] [.pp [.v (.int .i64 d)]])),(6,N p.2.1),(7,N p.2.2),(11,L64 l),(12,N l.length),(13,N p.1)] [] 0) (fun p=>p.1≤l.length∧bst g l (0,0)=bst g (l.drop p.1) (p.2.1,p.2.2)) (fun p=>l.length - p.1) (0,0,0) ⟨Nat.zero_le _,rfl⟩ ?_ ?_
  · refine zW2 ?_ <;> repeat' (with_reducible first|exact trivial|refine zan ?_ ?_|refine zal (fun i hi=>?_))
  · rintro ⟨i,o,m⟩ ⟨h1,h2⟩
    dsimp only at h1 h2
    have c_g:=fun h:i < l.length=>c_f i h
    have hd:=fun h:i < l.length=>bst_drop g h (o,m)
    repeat' (first|refine zR1 hc Tryz.results103 ?_|(with_reducible first|exact trivial|refine zan ?_ ?_|refine zim (fun h=>?_)|refine zoc (c_g ?_) ?_ ?_|fail)|(omega;done))
    · have hd':=hd (by omega)
      rw [if_pos h] at hd'
      refine ⟨(i+1,l.getD i 0,g (l.getD i 0)),⟨by dsimp only;omega,by rw [h2,hd']⟩,by dsimp only;omega,?_⟩
      refine zW2 ?_ <;> repeat' (with_reducible first|exact trivial|refine zan ?_ ?_|refine zal (fun i hi=>?_))
    · have hd':=hd (by omega)
      rw [if_neg h] at hd'
      refine ⟨(i+1,o,m),⟨by dsimp only;omega,by rw [h2,hd']⟩,by dsimp only;omega,?_⟩
      refine zW2 ?_ <;> repeat' (with_reducible first|exact trivial|refine zan ?_ ?_|refine zal (fun i hi=>?_))
    · have:l.length≤i:=by omega
      rw [List.drop_eq_nil_of_le this] at h2
      exact sub_eq (by rw [h2];rfl)
end Go.Proofs
end
section
set_option maxHeartbeats 4000000
set_option maxRecDepth 100000
namespace Go.Proofs
open Go.Ax
def stB (d:Nat):Int×Int:=bst (stg d) (rng (d+1)) (0,0)
theorem rng_mem {n:Nat} {x:Int} (h:x∈rng n):∃k:Nat,k < n∧x=k:=by
  unfold rng at h
  obtain ⟨k,h1,rfl⟩:=List.mem_map.1 h
  exact ⟨k,List.mem_range.1 h1,rfl⟩
theorem rng_get {n i:Nat} (h:i < n):(rng n).getD i 0=i:=by
  unfold rng
  simp [List.getD_eq_getElem?_getD,h]
theorem stB_in (d:Nat):∃k:Nat,k≤d∧(stB d).1=k∧(0 < (stB d).2↔0 < k):=by
  unfold stB
  refine bst_prop (stg d) (fun p=>∃k:Nat,k≤d∧p.1=k∧0≤p.2∧(0 < p.2↔0 < k)) _ _ ⟨0,Nat.zero_le _,rfl,by decide,by decide⟩ (fun x hx q hq hlt=>?_) |>.imp fun k h=>⟨h.1,h.2.1,h.2.2.2⟩
  obtain ⟨k,h1,rfl⟩:=rng_mem hx
  obtain ⟨_,_,_,h3,_⟩:=hq
  refine ⟨k,by omega,rfl,by dsimp only;omega,fun _=>?_,fun _=>by dsimp only;omega⟩
  rcases Nat.eq_zero_or_pos k with h|h
  · subst h
    exfalso
    have:stg d ((0:Nat):Int)=0:=by simp [stg]
    omega
  · exact h
theorem c_Strongest (d:Int):Ax.Pure Tryz.prog G 51 [N d] (.tup [N (if errL [d]=0 then (stB d.toNat).1 else 0),N (if errL [d]=0 then (if (stB d.toNat).1=0 then 0 else ((sid d.toNat (stB d.toNat).1.toNat:Nat):Int)) else 0),N (if errL [d]=0 then (if (stB d.toNat).1=0 then 7 else 0) else 3)]):=by
  have c_s:=c_sizes1 d
  have hw:=errL_or [d]
  by_cases he:errL [d]=0
  · have ho:=errL_ok he d (by simp)
    obtain ⟨n,rfl⟩:∃n:Nat,d=n:=⟨d.toNat,by omega⟩
    have hn:n≤10000:=by omega
    have w1:IntKind.i64.wrap ((n:Int)+1)=((n+1:Nat):Int):=by rw [w64 (by omega) (by omega)];omega
    have c_0:=c_numbers (n+1) (by omega)
    have c_n:Ax.Pure Tryz.prog G 91 [N (IntKind.i64.wrap ((n:Int)+1))] (L64 (rng (n+1))):=by rw [w1];exact c_0
    have c_b:=c_bestI (stg n) 112 n (rng (n+1)) (by rw [rng_len];omega) (fun i hi=>by
      rw [rng_len] at hi
      rw [rng_get hi]
      exact c_stg n i hn (by omega))
    obtain ⟨k,h1,h2,h3⟩:=stB_in n
    have c_d:=c_side n k hn (by omega)
    have e1:bst (stg n) (rng (n+1)) (0,0)=stB n:=rfl
    rw [e1,h2] at c_b
    rw [if_pos he,if_pos he,if_pos he,Int.toNat_natCast,h2,Int.toNat_natCast]
    rw [he] at c_s
    refine zen Tryz.func51 rfl Tryz.ntmps51 ?_
    intro w0 E0 hc
    repeat' (first|(with_reducible first|refine Wp_seq ?_|refine zwk ?_|refine Wp_block ?_|refine zgo ?_|refine zbn ?_|refine zge Tryz.results51 ?_|refine Sub.refl _|refine allP_nil|refine zoa1 (out':=?_) ?_|refine zca1 (y:=?_) ?_|refine zea1 (eo':=?_) ?_)|(with_reducible refine zrs [1] hc ?_ ?_;focus (with_unfolding_all rfl))|(with_reducible refine zrm [1] hc mixed ?_ ?_;focus (with_unfolding_all rfl))|(with_reducible refine allP_cons ?_ ?_;focus (first|decide|omega))|(with_reducible first|refine zg2 ?_ ?_|refine zbo ?_|refine zg3 ?_ (fun h=>?_) (fun h=>?_)|refine zg4 (fun h=>?_) (fun h=>?_)|fail)|(omega;done))
    refine Wp_frzP hc 0 (sz:=1) (ro:=false) (g:=fun _=> [.v (.int .i64 n)]) (Is.refl _) ⟨trivial,trivial⟩ rfl ?_
    refine Wp_weaker (st':=stOf [(1,.one (.pp [.v (.int .i64 n)])),(2,N 0),(3,N 0),(4,N 0)] [] 1) ?_ ?_
    · refine zW1 ?_ <;> repeat' (with_reducible first|exact trivial|refine zan ?_ ?_|refine zal (fun i hi=>?_))
    repeat' (first|refine zR1 hc Tryz.results51 ?_|(with_reducible first|exact trivial|refine zan ?_ ?_|refine zim (fun h=>?_)|refine zoc c_s ?_ ?_|refine zoc c_n ?_ ?_|refine zoc c_b ?_ ?_|refine zoc c_d ?_ ?_|fail)|(omega;done))
    · have hk:k=0:=by
        have h4:¬0 < (stB n).2:=by simpa using h
        have:=mt h3.2 h4
        omega
      exact sub_eq (by simp [hk])
    · have hk:k≠0:=by
        have h4:0 < (stB n).2:=by simpa using h
        have:=h3.1 h4
        omega
      exact sub_eq (by simp [hk])
  · have e3:=hw.resolve_left he
    rw [if_neg he,if_neg he,if_neg he]
    rw [e3] at c_s
    refine zen Tryz.func51 rfl Tryz.ntmps51 ?_
    intro w0 E0 hc
    repeat' (first|refine zR1 hc Tryz.results51 ?_|(with_reducible first|exact trivial|refine zan ?_ ?_|refine zim (fun h=>?_)|refine zoc c_s ?_ ?_|fail)|(omega;done))
theorem stg_zero (d:Nat):stg d 0=0:=by simp [stg]
end Go.Proofs
end
section
namespace Go.Proofs
open Go.Ax
theorem bbB_snoc (d:Nat) (t k:Int) (n:Nat):bbB d t k (n+1)=if (bbB d t k n).2 < bsum d t k ((n+1:Nat):Int) then (((n+1:Nat):Int),bsum d t k ((n+1:Nat):Int)) else bbB d t k n:=by
  show bst (bsum d t k) (ons (n+1)) (0,0)=_
  rw [ons_snoc,bst_app]
  rfl
theorem bbB_spec (d:Nat) (t k:Int):∀n:Nat,∃m:Nat,(bbB d t k n).1=m∧m≤n∧(∀j:Nat,1≤j→j≤n→bsum d t k j≤(bbB d t k n).2)∧(∀j:Nat,1≤j→j < m→bsum d t k j < (bbB d t k n).2)∧((m=0∧(bbB d t k n).2=0)∨(1≤m∧(bbB d t k n).2=bsum d t k m∧0 < bsum d t k m))
  | 0=>⟨0,rfl,Nat.le_refl _,fun j h1 h2=>by omega,fun j h1 h2=>by omega,.inl ⟨rfl,rfl⟩⟩
  | n + 1 => by
    obtain ⟨m,e,h1,h2,h3,h4⟩:=bbB_spec d t k n
    rw [bbB_snoc]
    by_cases c:(bbB d t k n).2 < bsum d t k ((n+1:Nat):Int)
    · rw [if_pos c]
      refine ⟨n+1,rfl,Nat.le_refl _,fun j g1 g2=>?_,fun j g1 g2=>?_,.inr ⟨by omega,rfl,?_⟩⟩
      · rcases Nat.lt_or_ge j (n+1) with g|g
        · have:=h2 j g1 (by omega)
          show bsum d t k j≤bsum d t k ((n+1:Nat):Int)
          omega
        · have:j=n+1:=by omega
          subst this
          exact Int.le_refl _
      · have:=h2 j g1 (by omega)
        show bsum d t k j < bsum d t k ((n+1:Nat):Int)
        omega
      · rcases h4 with ⟨_,g⟩|⟨_,g,g'⟩<;> omega
    · rw [if_neg c]
      refine ⟨m,e,by omega,fun j g1 g2=>?_,h3,h4⟩
      rcases Nat.lt_or_ge j (n+1) with g|g
      · exact h2 j g1 (by omega)
      · have:j=n+1:=by omega
        subst this
        omega
theorem stB_spec (d:Nat):∀n:Nat,∃a:Nat,(bst (stg d) (rng n) (0,0)).1=a∧(∀j:Nat,j < n→stg d j≤(bst (stg d) (rng n) (0,0)).2)∧((a=0∧(bst (stg d) (rng n) (0,0)).2=0)∨(1≤a∧a < n∧(bst (stg d) (rng n) (0,0)).2=stg d a∧0 < stg d a))
  | 0=>⟨0,rfl,fun j h=>by omega,.inl ⟨rfl,rfl⟩⟩
  | n + 1 => by
    obtain ⟨a,e,h2,h4⟩:=stB_spec d n
    have es:bst (stg d) (rng (n+1)) (0,0)=if (bst (stg d) (rng n) (0,0)).2 < stg d n then ((n:Int),stg d n) else bst (stg d) (rng n) (0,0):=by
      rw [rng_snoc,bst_app];rfl
    rw [es]
    by_cases c:(bst (stg d) (rng n) (0,0)).2 < stg d n
    · rw [if_pos c]
      have hn:n≠0:=by
        rintro rfl
        have e0:stg d ((0:Nat):Int)=0:=stg_zero d
        rw [e0] at c
        rcases h4 with ⟨_,g⟩|⟨_,_,g,g'⟩<;> omega
      refine ⟨n,rfl,fun j g=>?_,.inr ⟨by omega,by omega,rfl,?_⟩⟩
      · rcases Nat.lt_or_ge j n with g'|g'
        · have:=h2 j g'
          show stg d j≤stg d n
          omega
        · have:j=n:=by omega
          subst this
          exact Int.le_refl _
      · rcases h4 with ⟨_,g⟩|⟨_,_,g,g'⟩<;> omega
    · rw [if_neg c]
      refine ⟨a,e,fun j g=>?_,?_⟩
      · rcases Nat.lt_or_ge j n with g'|g'
        · exact h2 j g'
        · have:j=n:=by omega
          subst this
          omega
      · rcases h4 with g|⟨g1,g2,g3⟩
        · exact .inl g
        · exact .inr ⟨g1,by omega,g3⟩
theorem lowB_sym (t k n i:Int):lowB t k n (n - 1 - i)= -lowB t k n i - 2*t:=by
  unfold lowB hgt
  have e1:2*(n - 1 - i)*(t+k)=2*(n*t)+2*(n*k) - 2*(t+k) - 2*i*(t+k):=by grind
  have e2:(n - 1)*k=n*k - k:=by rw [Int.sub_mul,Int.one_mul]
  rw [e1,e2]
  omega
theorem farB_sym (t k n i:Int) (h:0≤t):farB t k n (n - 1 - i)=farB t k n i:=by
  unfold farB
  rw [lowB_sym]
  unfold mxI
  repeat' split
  all_goals omega
theorem wid_sym (d:Nat) (t k n i:Int) (h:0≤t):wid d t k n (n - 1 - i)=wid d t k n i:=by
  unfold wid
  rw [farB_sym t k n i h]
theorem farB_y (t k n i:Int) (h:0≤t):farB t k n i=if lowB t k n i+2*t < -lowB t k n i then -lowB t k n i else lowB t k n i+2*t:=by
  unfold farB mxI
  repeat' split
  all_goals omega
theorem low_w2 (t k n:Int) (h1:0≤t) (h2:t≤10000) (h3:0≤k) (h4:k≤10000) (h5:0≤n) (h6:n≤64) (i:Int) (h7:0≤i) (h8:i < n) :
    IntKind.i64.wrap (IntKind.i64.wrap (IntKind.i64.wrap (IntKind.i64.wrap (2*i)*IntKind.i64.wrap (t+k)) - IntKind.i64.wrap (n*t)) - IntKind.i64.wrap (IntKind.i64.wrap (n - 1)*k))=lowB t k n i:=by
  have m1:=mul_bd (a:=2*i) (by omega) (by omega:2*i≤128) (by omega:0≤t+k) (by omega:t+k≤20000)
  have m2:=mul_bd h5 h6 h1 h2
  have m3:=mul_bd (a:=n - 1) (by omega) (by omega:n - 1≤64) h3 h4
  unfold lowB hgt
  rw [w64 (x:=2*i) (by omega) (by omega),w64 (x:=t+k) (by omega) (by omega),w64 (x:=2*i*(t+k)) (by omega) (by omega),w64 (x:=n*t) (by omega) (by omega),w64 (x:=n - 1) (by omega) (by omega),w64 (x:=(n - 1)*k) (by omega) (by omega),w64 (x:=2*i*(t+k) - n*t) (by omega) (by omega),w64 (by omega) (by omega)]
  omega
theorem y_w2 (t k n:Int) (h1:0≤t) (h2:t≤10000) (h3:0≤k) (h4:k≤10000) (h5:0≤n) (h6:n≤64) (i:Int) (h7:0≤i) (h8:i < n) :
    (if IntKind.i64.wrap (lowB t k n i+IntKind.i64.wrap (2*t)) < IntKind.i64.wrap (0 - lowB t k n i) then IntKind.i64.wrap (0 - lowB t k n i) else IntKind.i64.wrap (lowB t k n i+IntKind.i64.wrap (2*t)))=farB t k n i:=by
  have m1:=low_bd t k n h1 h2 h3 h4 h5 h6 i h7 h8
  rw [w64 (x:=2*t) (by omega) (by omega),w64 (x:=lowB t k n i+2*t) (by omega) (by omega),w64 (x:=0 - lowB t k n i) (by omega) (by omega),Int.zero_sub,farB_y t k n i h1]
theorem wid_facts (D:Nat) (T K:Int) (M i:Nat) (v:Int) (hD:D≤10000) (hv:v=wid D T K M i) (h1:1≤wid D T K M i) :
    ¬v < 1∧¬(D:Int) < v∧¬IntKind.i64.wrap ((D:Int)*D) < IntKind.i64.wrap (IntKind.i64.wrap (v*v)+IntKind.i64.wrap (farB T K M i*farB T K M i))∧¬IntKind.i64.wrap (IntKind.i64.wrap (IntKind.i64.wrap (v+1)*IntKind.i64.wrap (v+1))+IntKind.i64.wrap (farB T K M i*farB T K M i))≤IntKind.i64.wrap ((D:Int)*D):=by
  have h2:=wid_le D T K M i
  have hi:=wid_iff (d:=D) (t:=T) (k:=K) (n:=M) (i:=i) (w:=wid D T K M i) (by omega)
  have hj:=wid_iff (d:=D) (t:=T) (k:=K) (n:=M) (i:=i) (w:=wid D T K M i+1) (by omega)
  obtain ⟨g1,g2⟩:=hi.1 (Nat.le_refl _)
  have g3:=mt hj.2 (by omega)
  have f0:=farB_pos T K M i
  rw [←hv] at g2
  have e1:((wid D T K M i+1:Nat):Int)=v+1:=by omega
  rw [e1] at g3
  have m1:=mul_bd (a:=v) (b:=v) (by omega) (by omega:v≤10000) (by omega) (by omega:v≤10000)
  have m2:=mul_bd f0 (by omega:farB T K M i≤10000) f0 (by omega:farB T K M i≤10000)
  have m3:=mul_bd (a:=(D:Int)) (b:=D) (by omega) (by omega:(D:Int)≤10000) (by omega) (by omega:(D:Int)≤10000)
  have m4:=mul_bd (a:=v+1) (b:=v+1) (by omega) (by omega:v+1≤10001) (by omega) (by omega:v+1≤10001)
  rw [w64 (x:=(D:Int)*D) (by omega) (by omega),w64 (x:=v*v) (by omega) (by omega),w64 (x:=farB T K M i*farB T K M i) (by omega) (by omega),w64 (x:=v+1) (by omega) (by omega),w64 (x:=(v+1)*(v+1)) (by omega) (by omega),w64 (x:=v*v+farB T K M i*farB T K M i) (by omega) (by omega),w64 (x:=(v+1)*(v+1)+farB T K M i*farB T K M i) (by omega) (by omega)]
  refine ⟨by omega,by omega,by omega,fun h=>g3 ⟨g1,h⟩⟩
end Go.Proofs
end
