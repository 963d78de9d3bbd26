/- Lemmas on the program and its library, part 10. -/
import Derived.Test.YtoiejgkkcfkliaaGreatDoorZ08
set_option linter.unusedVariables false
set_option linter.unusedSimpArgs false
section
namespace Go.Ax
def bl (x:Nat):Nat:=if x=0 then 0 else x.log2+1
theorem bl_lt (x:Nat):x < 2 ^ bl x:=by
  unfold bl;split
  · rename_i h;subst h;decide
  · exact Nat.lt_log2_self
theorem bl_le {x:Nat} (h:x≠0):2 ^ (bl x - 1)≤x:=by
  unfold bl;rw [if_neg h,Nat.add_sub_cancel];exact Nat.log2_self_le h
theorem bl_pos {x:Nat} (h:x≠0):1≤bl x:=by unfold bl;rw [if_neg h];omega
theorem bl_eq {x n:Nat} (h1:2 ^ n≤x) (h2:x < 2 ^ (n+1)):bl x=n+1:=by
  have h0:x≠0:=by have:=Nat.two_pow_pos n;omega
  unfold bl;rw [if_neg h0,(Nat.log2_eq_iff h0).2 ⟨h1,h2⟩]
theorem bl_le_of {x n:Nat} (h:x < 2 ^ n):bl x≤n:=by
  unfold bl;split
  · omega
  · rename_i h0;exact (Nat.log2_lt h0).2 h
theorem bl_shift {x k:Nat} (h:2 ^ k≤x):k+bl (x / 2 ^ k)=bl x:=by
  have hk:=Nat.two_pow_pos k
  have h0:x / 2 ^ k≠0:=by
    have:=Nat.div_pos h hk;omega
  have h1:=bl_le h0
  have h2:=bl_lt (x / 2 ^ k)
  have h3:=bl_pos h0
  obtain ⟨m,hm⟩:∃m,bl (x / 2 ^ k)=m+1:=⟨bl (x / 2 ^ k) - 1,by omega⟩
  rw [hm] at h1 h2 ⊢
  rw [Nat.add_sub_cancel] at h1
  rw [show k+(m+1)=(k+m)+1 by omega]
  refine (bl_eq ?_ ?_).symm
  · rw [Nat.pow_add,Nat.mul_comm]
    exact (Nat.le_div_iff_mul_le hk).1 h1
  · rw [show k+m+1=(m+1)+k by omega,Nat.pow_add]
    exact (Nat.div_lt_iff_lt_mul hk).1 h2
/-! ## Casts -/
theorem wrapN {a:Nat} (h:a < 18446744073709551616):IntKind.u64.wrap (a:Int)=(a:Int):=by rw [IntKind.wrap_u64];omega
theorem wrapI {a:Int} (h0:-9223372036854775808≤a) (h:a < 9223372036854775808):IntKind.i64.wrap a=a:=by rw [IntKind.wrap_i64];omega
theorem fdivN (a k:Nat) (b:Int) (hb:b.toNat=k) (hk:k≤64):(a:Int).fdiv (2 ^ min b.toNat IntKind.u64.bits)=((a / 2 ^ k:Nat):Int):=by
  rw [hb,show IntKind.u64.bits=64 from rfl,Nat.min_eq_left hk,Int.fdiv_eq_ediv_of_nonneg _ (by exact Int.le_of_lt (Int.pow_pos (by decide)))]
  rw [Int.natCast_ediv,Int.natCast_pow];rfl
theorem fdivK (a k:Nat) (hk:k≤64):(a:Int).fdiv (2 ^ min k IntKind.u64.bits)=((a / 2 ^ k:Nat):Int):=fdivN a k k rfl hk
theorem shlN (a k:Nat) (b:Int) (hb:b.toNat=k) (hk:k≤64):IntKind.u64.wrap ((a:Int)*2 ^ min b.toNat IntKind.u64.bits)=((a*2 ^ k%18446744073709551616:Nat):Int):=by
  rw [hb,show IntKind.u64.bits=64 from rfl,Nat.min_eq_left hk,IntKind.wrap_u64]
  have:(a:Int)*2 ^ k=((a*2 ^ k:Nat):Int):=by rw [Int.natCast_mul,Int.natCast_pow];rfl
  rw [this];omega
theorem tdivN (a b:Nat):(a:Int).tdiv b=((a / b:Nat):Int):=rfl
theorem tmodN (a b:Nat):(a:Int).tmod b=((a%b:Nat):Int):=rfl
theorem or_add {a b s:Nat} (ha:a < 2 ^ s) (hb:2 ^ s∣b) (h:a < 18446744073709551616) (hb':b < 18446744073709551616) :
    IntKind.u64.wrap ((BitVec.ofInt IntKind.u64.bits (a:Int) ||| BitVec.ofInt IntKind.u64.bits (b:Int)).toNat:Int)=((a+b:Nat):Int):=by
  have e:(BitVec.ofInt IntKind.u64.bits (a:Int) ||| BitVec.ofInt IntKind.u64.bits (b:Int)).toNat=a ||| b:=by
    rw [BitVec.toNat_or]
    show (BitVec.ofInt 64 (a:Int)).toNat ||| (BitVec.ofInt 64 (b:Int)).toNat=_
    rw [BitVec.toNat_ofInt,BitVec.toNat_ofInt]
    congr 1 <;> omega
  obtain ⟨c,rfl⟩:=hb
  have e2:a ||| 2 ^ s*c=a+2 ^ s*c:=by
    rw [Nat.or_comm,←Nat.two_pow_add_eq_or_of_lt ha,Nat.add_comm]
  have e3:a ||| 2 ^ s*c < 2 ^ 64:=Nat.or_lt_two_pow h hb'
  rw [e,wrapN (by omega),e2]
theorem or_add' {a b s:Nat} (ha:a < 2 ^ s) (hb:2 ^ s∣b) (h:a < 18446744073709551616) (hb':b < 18446744073709551616) :
    IntKind.u64.wrap ((BitVec.ofInt IntKind.u64.bits (b:Int) ||| BitVec.ofInt IntKind.u64.bits (a:Int)).toNat:Int)=((b+a:Nat):Int):=by
  rw [BitVec.or_comm,or_add ha hb h hb',Nat.add_comm]
/-! ## A shift of digits -/
structure ShTo (s:Nat) (w o:List Nat) (i:Nat):Prop where
  lt:∀d∈o,d < BB
  hi:i≤w.length
  len:o.length=w.length+1
  eq:val BB o=val BB (w.take i)*2 ^ s
  low:o.getD i 0 < 2 ^ s
  zero:∀k,i < k→o.getD k 0=0
theorem set_same {o:List Nat} {i:Nat} (h:o.getD i 0=0) (hi:i < o.length):o.set i 0=o:=by
  apply List.ext_getElem
  · simp
  · intro k h1 h2
    rw [List.getElem_set]
    split
    · rename_i e;subst e
      simpa [List.getD_eq_getElem?_getD,hi] using h.symm
    · rfl
theorem sh_digit {x s:Nat} (hx:x < BB) (hs:s < 64):x*2 ^ s / BB=x / 2 ^ (64 - s)∧x*2 ^ s / BB < 2 ^ s∧x*2 ^ s%BB+2 ^ s≤BB∧2 ^ s∣x*2 ^ s%BB:=by
  have hB:BB=2 ^ (64 - s)*2 ^ s:=by rw [←Nat.pow_add,show 64 - s+s=64 by omega]
  have hp:=Nat.two_pow_pos s
  have hq:=Nat.two_pow_pos (64 - s)
  rw [hB] at hx ⊢
  generalize 2 ^ (64 - s)=q at *
  generalize 2 ^ s=p at *
  rw [Nat.mul_div_mul_right _ _ hp,Nat.mul_mod_mul_right]
  refine ⟨rfl,Nat.div_lt_of_lt_mul hx,?_,Nat.dvd_mul_left _ _⟩
  have:x%q+1≤q:=Nat.mod_lt _ hq
  calc x%q*p+p=(x%q+1)*p:=by grind
    _≤q*p:=Nat.mul_le_mul_right _ this
theorem ShTo.step {s:Nat} {w o:List Nat} {i:Nat} (hs:s < 64) (h:ShTo s w o i) (hw:∀d∈w,d < BB) (hi:i < w.length) :
    ShTo s w ((o.set i (o.getD i 0+w.getD i 0*2 ^ s%BB)).set (i+1) (w.getD i 0*2 ^ s / BB)) (i+1):=by
  have hx:w.getD i 0 < BB:=getD_lt (by decide) hw i
  obtain ⟨_,h2,h3,_⟩:=sh_digit hx hs
  have hl:=h.len
  have hlow:=h.low
  have hB:w.getD i 0*2 ^ s / BB < BB:=Nat.lt_of_lt_of_le h2 (Nat.pow_le_pow_right (by decide) (show s≤64 by omega))
  refine ⟨set_lt (set_lt h.lt (by omega)) hB,hi,by simp [hl],?_,?_,fun k hk=>?_⟩
  · have e1:=val_set BB o i (o.getD i 0+w.getD i 0*2 ^ s%BB) (by omega)
    have e2:=val_set BB (o.set i (o.getD i 0+w.getD i 0*2 ^ s%BB)) (i+1) (w.getD i 0*2 ^ s / BB) (by rw [List.length_set];omega)
    have e0:(o.set i (o.getD i 0+w.getD i 0*2 ^ s%BB)).getD (i+1) 0=0:=by
      rw [getD_set _ _ (by omega),if_neg (by omega)];exact h.zero _ (by omega)
    rw [e0,Nat.mul_zero,Nat.add_zero] at e2
    clear e0
    have e3:=h.eq
    rw [val_take_succ,Nat.add_mul,←e3]
    have e4:=Nat.div_add_mod (w.getD i 0*2 ^ s) BB
    rw [Nat.pow_succ] at e2
    generalize val BB ((o.set i (o.getD i 0+w.getD i 0*2 ^ s%BB)).set (i+1) (w.getD i 0*2 ^ s / BB))=v2 at *
    generalize val BB (o.set i (o.getD i 0+w.getD i 0*2 ^ s%BB))=v1 at *
    generalize val BB o=v0 at *
    rw [Nat.mul_assoc (BB ^ i),←e4]
    generalize w.getD i 0*2 ^ s / BB=q at *
    generalize w.getD i 0*2 ^ s%BB=r at *
    generalize o.getD i 0=c at *
    generalize BB ^ i=p at *
    clear e4 h3 hlow
    grind
  · rw [getD_set _ _ (by rw [List.length_set];omega),if_pos rfl];exact h2
  · rw [getD_set _ _ (by rw [List.length_set];omega),if_neg (by omega),getD_set _ _ (by omega),if_neg (by omega)]
    exact h.zero k (by omega)
theorem ShTo.nil (s:Nat) (w:List Nat):ShTo s w (List.replicate (w.length+1) 0) 0:=
  ⟨fun d hd=>by rw [(List.mem_replicate.1 hd).2];decide,Nat.zero_le _,by simp,by rw [val_replicate];simp [val],by
    simp only [List.getD_eq_getElem?_getD,List.getElem?_replicate];split <;> exact Nat.two_pow_pos s,fun k _=>by
    simp only [List.getD_eq_getElem?_getD,List.getElem?_replicate];split <;> rfl⟩
/-! ## A fixed number of digits -/
def fixd (B:Nat):Nat→Nat→List Nat
  | 0,_=> []
  | n+1,v=>v%B :: fixd B n (v / B)
theorem fixd_len (B:Nat):∀n v,(fixd B n v).length=n
  | 0,_=>rfl
  | n+1,v=>by simp [fixd,fixd_len B n]
theorem fixd_lt {B:Nat} (hB:0 < B):∀n v,∀d∈fixd B n v,d < B
  | 0,_,d,h=>by cases h
  | n + 1, v, d, h => by
    rcases List.mem_cons.1 h with h|h
    · rw [h];exact Nat.mod_lt _ hB
    · exact fixd_lt hB n _ d h
theorem fixd_val {B:Nat}:∀n v,val B (fixd B n v)=v%B ^ n
  | 0,v=>by simp [fixd,val,Nat.mod_one]
  | n + 1, v => by
    simp only [fixd,val]
    rw [fixd_val n,Nat.pow_succ,Nat.mul_comm (B ^ n) B,Nat.mod_mul]
theorem fixd_of {B:Nat} (hB:0 < B):∀{o:List Nat} {v:Nat},(∀d∈o,d < B)→val B o=v→fixd B o.length v=o
  | [],v,_,_=>rfl
  | d :: o, v, h, hv => by
    subst hv
    have hd:d < B:=h d (by simp)
    simp only [List.length_cons,fixd,val,List.cons.injEq]
    refine ⟨by rw [Nat.add_mul_mod_self_left,Nat.mod_eq_of_lt hd],?_⟩
    rw [Nat.add_mul_div_left _ _ hB,Nat.div_eq_of_lt hd,Nat.zero_add]
    exact fixd_of hB (fun e he=>h e (by simp [he])) rfl
theorem fixd_eq {B n v:Nat} (hB:0 < B) {o:List Nat} (h:∀d∈o,d < B) (hl:o.length=n) (hv:val B o=v):fixd B n v=o:=by
  subst hl;exact fixd_of hB h hv
/-! ## Three half digits by two -/
structure KD (R y1 y0 T u q r:Nat):Prop where
  eqT:T=q*y1+r
  up:T*R+u < (q+1)*(y1*R+y0)
  hq:q≤R+1
  hr:r < R
section
variable {R y1 y0 T u q r:Nat}
theorem KD.start (hR:R≤2*y1) (hy1:y1 < R) (hy0:y0 < R) (hu:u < R) (hT:T < y1*R+y0):KD R y1 y0 T u (T / y1) (T%y1):=by
  have hp:0 < y1:=by omega
  have hr:=Nat.mod_lt T hp
  have e:T=T / y1*y1+T%y1:=by have:=Nat.div_add_mod T y1;rw [Nat.mul_comm] at this;omega
  refine ⟨e,?_,?_,by omega⟩
  · have h1:T+1≤(T / y1+1)*y1:=by rw [Nat.add_mul];omega
    have h2:(T+1)*R≤(T / y1+1)*y1*R:=Nat.mul_le_mul_right _ h1
    rw [Nat.add_mul,Nat.one_mul] at h2
    rw [Nat.mul_add,←Nat.mul_assoc]
    omega
  · have:T / y1 < R+2:=by
      rw [Nat.div_lt_iff_lt_mul hp,Nat.add_mul,Nat.mul_comm R]
      omega
    omega
theorem KD.more (h:KD R y1 y0 T u q r) (hT:T < y1*R+y0) (hu:u < R) (hc:R≤q∨R*r+u < q*y0):1≤q∧T=(q - 1)*y1+(r+y1)∧T*R+u < q*(y1*R+y0):=by
  have h1:=h.eqT
  have h2:=h.hr
  have hq:1≤q:=by
    rcases Nat.eq_zero_or_pos q with e|e
    · subst e
      rcases hc with hc|hc
      · omega
      · simp at hc
    · exact e
  obtain ⟨p,rfl⟩:∃p,q=p+1:=⟨q - 1,by omega⟩
  refine ⟨hq,?_,?_⟩
  · rw [Nat.add_sub_cancel];rw [Nat.add_mul] at h1;omega
  · rcases hc with hc|hc
    · have h3:(T+1)*R≤(y1*R+y0)*R:=Nat.mul_le_mul_right _ hT
      have h4:R*(y1*R+y0)≤(p+1)*(y1*R+y0):=Nat.mul_le_mul_right _ hc
      rw [Nat.add_mul] at h3
      rw [Nat.mul_comm (y1*R+y0) R] at h3
      omega
    · rw [h1]
      generalize p+1=q at *
      have:(q*y1+r)*R+u=q*(y1*R)+(R*r+u):=by grind
      rw [this,Nat.mul_add]
      omega
theorem KD.next (h:KD R y1 y0 T u q r) (hT:T < y1*R+y0) (hu:u < R) (hc:R≤q∨R*r+u < q*y0) (hr:r+y1 < R):KD R y1 y0 T u (q - 1) (r+y1):=by
  obtain ⟨h1,h2,h3⟩:=h.more hT hu hc
  exact ⟨h2,by rwa [Nat.sub_add_cancel h1],by have:=h.hq;omega,hr⟩
theorem KD.stop (h:KD R y1 y0 T u q r) (hT:T < y1*R+y0) (hu:u < R) (hy0:y0 < R) (hc:R≤q∨R*r+u < q*y0) (hr:R≤r+y1):q - 1=(T*R+u) / (y1*R+y0)∧q - 1≤R:=by
  obtain ⟨h1,h2,h3⟩:=h.more hT hu hc
  have hq:=h.hq
  obtain ⟨p,rfl⟩:∃p,q=p+1:=⟨q - 1,by omega⟩
  rw [Nat.add_sub_cancel] at h2 ⊢
  refine ⟨?_,by omega⟩
  have h4:p*(y1*R+y0)≤T*R+u:=by
    have h5:p*y0≤R*R:=Nat.mul_le_mul (by omega) (by omega)
    have h6:R*R≤(r+y1)*R:=Nat.mul_le_mul_right _ hr
    have h7:T*R=p*(y1*R)+(r+y1)*R:=by rw [h2];grind
    rw [Nat.mul_add]
    omega
  exact (Nat.div_eq_of_lt_le h4 h3).symm
theorem KD.done (h:KD R y1 y0 T u q r) (hc:q*y0≤R*r+u):q=(T*R+u) / (y1*R+y0):=by
  have h4:q*(y1*R+y0)≤T*R+u:=by
    have h7:T*R=q*(y1*R)+R*r:=by rw [h.eqT];grind
    rw [Nat.mul_add]
    omega
  exact (Nat.div_eq_of_lt_le h4 h.up).symm
end
end Go.Ax
end
section
namespace Go.Ax
theorem norm_top {y:Nat} (h0:y≠0) (hy:y < BB):9223372036854775808≤y*2 ^ (64 - bl y)∧y*2 ^ (64 - bl y) < BB∧64 - bl y < 64:=by
  have h1:=bl_le h0
  have h2:=bl_lt y
  have h3:=bl_pos h0
  have h4:bl y≤64:=bl_le_of (n:=64) hy
  have e1:(9223372036854775808:Nat)=2 ^ (bl y - 1)*2 ^ (64 - bl y):=by rw [←Nat.pow_add,show bl y - 1+(64 - bl y)=63 by omega]
  have e2:BB=2 ^ bl y*2 ^ (64 - bl y):=by rw [←Nat.pow_add,show bl y+(64 - bl y)=64 by omega]
  have hp:=Nat.two_pow_pos (64 - bl y)
  refine ⟨?_,?_,by omega⟩
  · rw [e1];exact Nat.mul_le_mul_right _ h1
  · rw [e2];exact Nat.mul_lt_mul_of_pos_right h2 hp
theorem wsub {A u b r:Nat} (e:A+u=b+r) (hr:r < 18446744073709551616):IntKind.u64.wrap (IntKind.u64.wrap (IntKind.u64.wrap (A:Int)+u) - IntKind.u64.wrap (b:Int))=(r:Int):=by
  rw [IntKind.wrap_u64,IntKind.wrap_u64,IntKind.wrap_u64,IntKind.wrap_u64];omega
theorem wsub1 {a b r:Nat} (e:a=b+r) (hr:r < 18446744073709551616):IntKind.u64.wrap ((a:Int) - IntKind.u64.wrap (b:Int))=(r:Int):=by
  rw [IntKind.wrap_u64,IntKind.wrap_u64];omega
theorem div64_parts {hi lo y s:Nat} (hs:s < 64) (hlo:lo < BB) (hhi:hi < y) (hy1:9223372036854775808≤y*2 ^ s) (hy2:y*2 ^ s < BB) :
    hi*2 ^ s+lo / 2 ^ (64 - s) < y*2 ^ s∧(hi*2 ^ s+lo / 2 ^ (64 - s))*BB+lo*2 ^ s%BB=(hi*BB+lo)*2 ^ s∧hi*2 ^ s < BB∧lo / 2 ^ (64 - s) < 2 ^ s:=by
  obtain ⟨d1,d2,d3,d4⟩:=sh_digit hlo hs
  have hp:=Nat.two_pow_pos s
  rw [←d1]
  have h1:(hi+1)*2 ^ s≤y*2 ^ s:=Nat.mul_le_mul_right _ hhi
  rw [Nat.add_mul,Nat.one_mul] at h1
  refine ⟨by omega,?_,by omega,d2⟩
  have e:=Nat.div_add_mod (lo*2 ^ s) BB
  rw [Nat.add_mul,Nat.add_mul,←e]
  generalize lo*2 ^ s / BB=a at *
  generalize lo*2 ^ s%BB=b at *
  generalize 2 ^ s=p at *
  grind
theorem div64_done {T R u1 u0 y:Nat} (hy:0 < y):(T*R+u1) / y*R+((T*R+u1)%y*R+u0) / y=(T*R*R+u1*R+u0) / y∧((T*R+u1)%y*R+u0)%y=(T*R*R+u1*R+u0)%y:=by
  have e1:=Nat.div_add_mod (T*R+u1) y
  have e2:=Nat.div_add_mod ((T*R+u1)%y*R+u0) y
  have h2:=Nat.mod_lt ((T*R+u1)%y*R+u0) hy
  generalize (T*R+u1) / y=q1 at *
  generalize (T*R+u1)%y=r1 at *
  generalize (r1*R+u0) / y=q0 at *
  generalize (r1*R+u0)%y=r0 at *
  have e:T*R*R+u1*R+u0=y*(q1*R+q0)+r0:=by
    have:T*R*R+u1*R=(T*R+u1)*R:=by grind
    rw [this,←e1]
    have:(y*q1+r1)*R+u0=y*(q1*R)+(r1*R+u0):=by grind
    rw [this,←e2]
    grind
  have:=(Nat.div_mod_unique hy (a:=T*R*R+u1*R+u0) (c:=r0) (d:=q1*R+q0)).2 ⟨by rw [e];omega,h2⟩
  exact ⟨this.1.symm,this.2.symm⟩
theorem kd_wraps {y1 y0 T u q r:Nat} (h:KD 4294967296 y1 y0 T u q r) (hy0:y0 < 4294967296) (hu:u < 4294967296) (hy1:y1 < 4294967296) :
    IntKind.u64.wrap (IntKind.u64.wrap (4294967296*(r:Int))+u)=((4294967296*r+u:Nat):Int)∧IntKind.u64.wrap ((q:Int)*y0)=((q*y0:Nat):Int)∧IntKind.u64.wrap ((r:Int)+y1)=((r+y1:Nat):Int)∧(1≤q→IntKind.u64.wrap ((q:Int) - 1)=((q - 1:Nat):Int)):=by
  have h1:=h.hr
  have h2:=h.hq
  have h3:q*y0≤4294967297*4294967295:=Nat.mul_le_mul (by omega) (by omega)
  refine ⟨?_,?_,?_,fun h=>?_⟩
  · rw [IntKind.wrap_u64,IntKind.wrap_u64];omega
  · rw [←Int.natCast_mul];exact wrapN (by omega)
  · rw [IntKind.wrap_u64];omega
  · rw [IntKind.wrap_u64];omega
theorem kd_rhat {T y1:Nat} (hT:T < 18446744073709551616):IntKind.u64.wrap ((T:Int).tdiv y1)=((T / y1:Nat):Int)∧IntKind.u64.wrap ((T:Int) - IntKind.u64.wrap (IntKind.u64.wrap ((T:Int).tdiv y1)*y1))=((T%y1:Nat):Int):=by
  have e1:IntKind.u64.wrap ((T:Int).tdiv y1)=((T / y1:Nat):Int):=by rw [tdivN];exact wrapN (Nat.lt_of_le_of_lt (Nat.div_le_self _ _) hT)
  refine ⟨e1,?_⟩
  rw [e1,←Int.natCast_mul]
  refine wsub1 ?_ (Nat.lt_of_le_of_lt (Nat.mod_le _ _) hT)
  have:=Nat.div_add_mod T y1
  rw [Nat.mul_comm] at this;omega
theorem half_lt {a:Nat} (h:a < BB):a / 4294967296 < 4294967296:=by simp only [BB] at h;omega
theorem half_eq (a:Nat):a / 4294967296*4294967296+a%4294967296=a:=by omega
end Go.Ax
end
section
namespace Go.Ax
/-! ## A window of a row -/
def rw3 (o:List Nat) (j:Nat) (d:List Nat):List Nat:=o.take j++(d++o.drop (j+d.length))
section
variable {o d:List Nat} {j:Nat}
theorem rw3_nil:rw3 o j []=o:=by simp [rw3]
theorem rw3_len (h:j+d.length≤o.length):(rw3 o j d).length=o.length:=by simp [rw3];omega
theorem rw3_get (h:j+d.length≤o.length) (k:Nat):(rw3 o j d).getD k 0=if j≤k∧k < j+d.length then d.getD (k - j) 0 else o.getD k 0:=by
  simp only [rw3,List.getD_eq_getElem?_getD]
  rcases Nat.lt_or_ge k j with h1|h1
  · rw [List.getElem?_append_left (by simp;omega),List.getElem?_take,if_pos h1,if_neg (by omega)]
  · rw [List.getElem?_append_right (by simp;omega),List.length_take,Nat.min_eq_left (by omega)]
    rcases Nat.lt_or_ge (k - j) d.length with h2|h2
    · rw [List.getElem?_append_left h2,if_pos ⟨h1,by omega⟩]
    · rw [List.getElem?_append_right h2,if_neg (by omega),List.getElem?_drop]
      congr 2;omega
theorem rw3_at (h:j+d.length≤o.length) {k:Nat} (hk:j+d.length≤k):(rw3 o j d).getD k 0=o.getD k 0:=by
  rw [rw3_get h,if_neg (by omega)]
theorem rw3_mid (h:j+d.length≤o.length) {i:Nat} (hi:i < d.length):(rw3 o j d).getD (j+i) 0=d.getD i 0:=by
  rw [rw3_get h,if_pos (by omega)];congr 1;omega
theorem list_eq_of_getD {x y:List Nat} (hl:x.length=y.length) (h:∀k,k < x.length→x.getD k 0=y.getD k 0):x=y:=by
  apply List.ext_getElem hl
  intro k h1 h2
  have:=h k h1
  simpa [List.getD_eq_getElem?_getD,h1,h2] using this
theorem rw3_set (h:j+d.length < o.length) (x:Nat):(rw3 o j d).set (j+d.length) x=rw3 o j (d++ [x]):=by
  apply list_eq_of_getD
  · rw [List.length_set,rw3_len (by omega),rw3_len (by simp;omega)]
  · intro k hk
    rw [List.length_set,rw3_len (by omega)] at hk
    rw [getD_set _ _ (by rw [rw3_len (by omega)];omega),rw3_get (d:=d++ [x]) (by simp;omega),rw3_get (d:=d) (by omega)]
    simp only [List.length_append,List.length_singleton]
    by_cases e:k=j+d.length
    · rw [if_pos e,if_pos (by omega),getD_snoc,if_pos (by omega)]
    · rw [if_neg e]
      by_cases e2:j≤k∧k < j+d.length
      · rw [if_pos e2,if_pos (by omega),getD_snoc,if_neg (by omega)]
      · rw [if_neg e2,if_neg (by omega)]
theorem rw3_rw3 {e:List Nat} (h:j+d.length≤o.length) (he:e.length=d.length):rw3 (rw3 o j d) j e=rw3 o j e:=by
  apply list_eq_of_getD
  · rw [rw3_len (by rw [rw3_len h];omega),rw3_len h,rw3_len (by omega)]
  · intro k _
    rw [rw3_get (by rw [rw3_len h];omega),rw3_get h,rw3_get (d:=e) (by omega),he]
    split
    · rfl
    · rfl
theorem rw3_lt {B:Nat} (ho:∀x∈o,x < B) (hd:∀x∈d,x < B):∀x∈rw3 o j d,x < B:=by
  intro x hx
  simp only [rw3,List.mem_append] at hx
  rcases hx with hx|hx|hx
  · exact ho x (List.mem_of_mem_take hx)
  · exact hd x hx
  · exact ho x (List.mem_of_mem_drop hx)
end
/-! ## The top digits -/
theorem val_top1 {B:Nat} {l:List Nat} {n:Nat} (hl:l.length=n+1):val B l=l.getD n 0*B ^ n+val B (l.take n):=by
  have h1:=val_take_succ B l n
  rw [List.take_of_length_le (by omega)] at h1
  rw [h1,Nat.mul_comm];omega
theorem val_top2 {B:Nat} {l:List Nat} {n:Nat} (hl:l.length=n+2):val B l=(l.getD (n+1) 0*B+l.getD n 0)*B ^ n+val B (l.take n):=by
  rw [val_top1 (n:=n+1) hl,val_take_succ,Nat.pow_succ]
  grind
theorem val_top3 {B:Nat} {l:List Nat} {n:Nat} (hl:l.length=n+3):val B l=((l.getD (n+2) 0*B+l.getD (n+1) 0)*B+l.getD n 0)*B ^ n+val B (l.take n):=by
  rw [val_top1 (n:=n+2) hl,val_take_succ,val_take_succ,Nat.pow_succ,Nat.pow_succ]
  grind
structure KQ (B v1 T U V q r over:Nat):Prop where
  eqT:T=q*v1+(r+B*over)
  up:U < (q+1)*V
  hq:q < B
  hr:r < B
  hov:over≤1
structure KG (B U V q:Nat):Prop where
  up:U < (q+1)*V
  low:q*V≤U+V
  hq:q < B
section
variable {B p v1 v2 Vl u1 u2 u3 Ul T U V q r over:Nat}
theorem KQ.start1 (hT:T=u1*B+u2) (hU:U=(T*B+u3)*p+Ul) (hV:V=(v1*B+v2)*p+Vl) (hUV:U < B*V) (hVl:Vl < p) (hv1:v1 < B) (hv2:v2 < B) (hu2:u2 < B) (h:v1≤u1) :
    KQ B v1 T U V (B - 1) ((u2+v1)%B) ((u2+v1) / B):=by
  have hB:0 < B:=by omega
  have hp:0 < p:=by omega
  have hle:u1=v1:=by
    rcases Nat.lt_or_ge v1 u1 with h1|h1
    · exfalso
      have h2:(v1+1)*B*B*p≤u1*B*B*p:=Nat.mul_le_mul_right _ (Nat.mul_le_mul_right _ (Nat.mul_le_mul_right _ h1))
      have h3:u1*B*B*p≤U:=by rw [hU,hT];grind
      have h4:(v2+1)*p≤B*p:=Nat.mul_le_mul_right _ hv2
      have h5:V < v1*B*p+B*p:=by rw [hV];grind
      have h6:B*V < B*(v1*B*p+B*p):=Nat.mul_lt_mul_of_pos_left h5 hB
      have h7:B*(v1*B*p+B*p)=(v1+1)*B*B*p:=by grind
      omega
    · omega
  have e:=Nat.div_add_mod (u2+v1) B
  refine ⟨?_,by rw [Nat.sub_add_cancel hB];exact hUV,by omega,Nat.mod_lt _ hB,?_⟩
  · rw [hT,hle]
    have:v1*B=(B - 1)*v1+v1:=by
      obtain ⟨b,rfl⟩:∃b,B=b+1:=⟨B - 1,by omega⟩
      rw [Nat.add_sub_cancel];grind
    omega
  · have:=Nat.div_lt_of_lt_mul (show u2+v1 < B*2 by omega)
    omega
theorem KQ.start2 (hT:T=u1*B+u2) (hU:U=(T*B+u3)*p+Ul) (hV:V=(v1*B+v2)*p+Vl) (hUl:Ul < p) (hu3:u3 < B) (hv1:v1 < B) (hu2:u2 < B) (h:u1 < v1) :
    KQ B v1 T U V (T / v1) (T%v1) 0:=by
  have hp:0 < v1:=by omega
  have hr:=Nat.mod_lt T hp
  have e:=Nat.div_add_mod T v1
  rw [Nat.mul_comm] at e
  refine ⟨by omega,kd_init hV hU hUl hu3 ?_,?_,by omega,by omega⟩
  · rw [Nat.add_mul];omega
  · rw [Nat.div_lt_iff_lt_mul hp,hT]
    have:(u1+1)*B≤v1*B:=Nat.mul_le_mul_right _ h
    rw [Nat.add_mul] at this
    rw [Nat.mul_comm B];omega
theorem KQ.carry (h:KQ B v1 T U V q r 1) (hU:U=(T*B+u3)*p+Ul) (hV:V=(v1*B+v2)*p+Vl) (hVl:Vl < p) (hv2:v2 < B) (hv1:0 < v1):KG B U V q:=by
  refine ⟨h.up,kd_exit (r:=r+B*1) (v2:=v2) (u3:=u3) (Ul:=Ul) hV hU hVl h.eqT h.hq hv1 ?_,h.hq⟩
  have h1:q*v2≤B*B:=Nat.mul_le_mul (Nat.le_of_lt h.hq) (Nat.le_of_lt hv2)
  rw [Nat.mul_one,Nat.add_mul];omega
theorem KQ.break (h:KQ B v1 T U V q r 0) (hU:U=(T*B+u3)*p+Ul) (hV:V=(v1*B+v2)*p+Vl) (hVl:Vl < p) (hv1:0 < v1) (hc:q*v2≤r*B+u3):KG B U V q:=by
  refine ⟨h.up,kd_exit (r:=r) hV hU hVl (by have:=h.eqT;omega) h.hq hv1 hc,h.hq⟩
theorem KQ.next (h:KQ B v1 T U V q r 0) (hU:U=(T*B+u3)*p+Ul) (hV:V=(v1*B+v2)*p+Vl) (hUl:Ul < p) (hv1:v1 < B) (hc:r*B+u3 < q*v2):1≤q∧KQ B v1 T U V (q - 1) ((r+v1)%B) ((r+v1) / B):=by
  have hr:=h.hr
  have hq:1≤q:=by
    rcases Nat.eq_zero_or_pos q with e|e
    · subst e;simp at hc
    · exact e
  have hT:T=q*v1+r:=by have:=h.eqT;omega
  have hd:=kd_dec hV hU hUl hT hc
  obtain ⟨k,rfl⟩:∃k,q=k+1:=⟨q - 1,by omega⟩
  have e:=Nat.div_add_mod (r+v1) B
  refine ⟨hq,?_,by rw [Nat.sub_add_cancel hq];exact hd,by have:=h.hq;omega,Nat.mod_lt _ (by omega),?_⟩
  · rw [Nat.add_sub_cancel,hT,Nat.add_mul];omega
  · have:=Nat.div_lt_of_lt_mul (show r+v1 < B*2 by omega)
    omega
end
theorem guess_ok {B x hi lo r u3:Nat} (hx:x=hi*B+lo) (hlo:lo < B) (hu:u3 < B):(hi < r∨hi=r∧lo≤u3)↔x≤r*B+u3:=by
  subst hx
  constructor
  · rintro (h|⟨rfl,h⟩)
    · have:(hi+1)*B≤r*B:=Nat.mul_le_mul_right _ h
      rw [Nat.add_mul] at this;omega
    · omega
  · intro h
    rcases Nat.lt_trichotomy hi r with h1|h1|h1
    · exact .inl h1
    · subst h1;exact .inr ⟨rfl,by omega⟩
    · exfalso
      have:(r+1)*B≤hi*B:=Nat.mul_le_mul_right _ h1
      rw [Nat.add_mul] at this;omega
theorem mul_acc1 {B x y c:Nat} (hx:x < B) (hy:y < B) (hc:c < B):x*y / B+(x*y%B+c) / B < B∧x*y+c=(x*y%B+c)%B+B*(x*y / B+(x*y%B+c) / B):=by
  have hB:0 < B:=by omega
  have:=mul_acc (B:=B) (x:=x) (y:=y) (a:=c) (c:=0) (hi:=x*y / B) (lo:=x*y%B) (c1:=(x*y%B+c) / B) (l1:=(x*y%B+c)%B) (c2:=0) (l2:=(x*y%B+c)%B)
    hx hy hc hB (Nat.div_add_mod _ _).symm (Nat.div_add_mod _ _).symm (by rw [Nat.mul_zero,Nat.zero_add,Nat.add_zero]) (Nat.mod_lt _ hB)
  simp only [Nat.add_zero] at this
  exact ⟨this.1,this.2.symm⟩
theorem sub_digit {B u l b:Nat} (hu:u < B) (hl:l < B) (hb:b≤1):(u+B - l - b)%B+l+b=u+B*(if u < l+b then 1 else 0):=by
  split
  · rw [Nat.mod_eq_of_lt (by omega)];omega
  · rw [Nat.mod_eq_sub_mod (by omega),Nat.mod_eq_of_lt (by omega)];omega
theorem step_back {B n V W q c dt N:Nat} {d e v:List Nat} (hB:2≤B) (hd:∀x∈d,x < B) (he:∀x∈e,x < B) (hdl:d.length=n+1) (hel:e.length=n) (hN:val B d=N) (hW:W < B ^ (n+1)) (hV:V < B ^ n) (hVp:0 < V) (hdt:d.getD n 0=dt)
    (eN:N+q*V=W+B ^ (n+1)*1) (hq2:q*V≤W+V) (eA:val B e+B ^ n*c=val B (d.take n)+V):q - 1=W / V∧val B (e++ [(dt+c)%B])=W%V∧1≤q:=by
  have h1:=val_top1 (B:=B) hdl
  rw [hdt,hN] at h1
  have hNl:N < B ^ (n+1):=by rw [←hN,←hdl];exact val_lt B d hd
  have hMl:val B (e++ [(dt+c)%B]) < B ^ (n+1):=by
    have:=val_lt B (e++ [(dt+c)%B]) (snoc_lt he (Nat.mod_lt _ (by omega)))
    rwa [List.length_append,List.length_singleton,hel] at this
  refine kd_back (N:=N) (b:=1) hq2 hNl hMl (by omega) hVp hB eN rfl ⟨(dt+c) / B,?_⟩
  have h2:=Nat.div_add_mod (dt+c) B
  rw [val_snoc,hel,Nat.pow_succ]
  generalize val B e=ve at *
  generalize val B (d.take n)=vd at *
  generalize B ^ n=p at *
  generalize (dt+c) / B=k at *
  generalize (dt+c)%B=r at *
  have h3:p*(B*k+r)=p*(dt+c):=by rw [h2]
  grind
end Go.Ax
end
section
namespace Go.Ax
theorem fixd_get {B:Nat}:∀(n v k:Nat),(fixd B n v).getD k 0=if k < n then v / B ^ k%B else 0
  | 0,v,k=>by simp [fixd]
  | n+1,v,0=>by simp [fixd]
  | n + 1, v, k + 1 => by
    have:(fixd B (n+1) v).getD (k+1) 0=(fixd B n (v / B)).getD k 0:=by simp [fixd,List.getD_eq_getElem?_getD]
    rw [this,fixd_get n (v / B) k,Nat.div_div_eq_div_mul,Nat.pow_succ,Nat.mul_comm B]
    simp only [Nat.add_lt_add_iff_right]
theorem val_drop (B:Nat) (l:List Nat) (k:Nat) (h:k≤l.length):val B l=val B (l.take k)+B ^ k*val B (l.drop k):=by
  conv=>lhs;rw [←List.take_append_drop k l]
  rw [val_append,List.length_take,Nat.min_eq_left h]
/-! ## By one digit -/
structure D1 (B:Nat) (a:List Nat) (b:Nat) (o:List Nat) (k rest:Nat):Prop where
  lt:∀d∈o,d < B
  len:o.length=a.length
  hk:k≤a.length
  hr:rest < b
  eq:val B o*b+rest*B ^ k+val B (a.take k)=val B a
  zero:∀i,i < k→o.getD i 0=0
theorem D1.start {B:Nat} (hB:0 < B) (a:List Nat) {b:Nat} (hb:0 < b):D1 B a b (List.replicate a.length 0) a.length 0:=
  ⟨fun d hd=>by rw [(List.mem_replicate.1 hd).2];exact hB,by simp,Nat.le_refl _,hb,by rw [val_replicate,List.take_length];simp,fun k _=>by
    simp only [List.getD_eq_getElem?_getD,List.getElem?_replicate];split <;> rfl⟩
theorem D1.step {B:Nat} {a:List Nat} {b:Nat} {o:List Nat} {k rest:Nat} (h:D1 B a b o (k+1) rest) (ha:∀d∈a,d < B) :
    (rest*B+a.getD k 0) / b < B∧D1 B a b (o.set k ((rest*B+a.getD k 0) / b)) k ((rest*B+a.getD k 0)%b):=by
  have hr:=h.hr
  have hb:0 < b:=by omega
  have hk:=h.hk
  have hlen:=h.len
  have hB:0 < B:=by
    cases ha':a with
    | nil=>rw [ha'] at hk;simp at hk
    | cons x r=>have:=ha x (by rw [ha'];simp);omega
  have hd:=getD_lt hB ha k
  have hq:(rest*B+a.getD k 0) / b < B:=by
    rw [Nat.div_lt_iff_lt_mul hb]
    have:(rest+1)*B≤b*B:=Nat.mul_le_mul_right _ hr
    rw [Nat.add_mul] at this
    rw [Nat.mul_comm B];omega
  refine ⟨hq,set_lt h.lt hq,by rw [List.length_set];exact hlen,by omega,Nat.mod_lt _ hb,?_,fun i hi=>?_⟩
  · have e1:=val_set B o k ((rest*B+a.getD k 0) / b) (by omega)
    rw [h.zero k (by omega),Nat.mul_zero,Nat.add_zero] at e1
    have e2:=h.eq
    rw [val_take_succ,Nat.pow_succ] at e2
    have e3:=Nat.div_add_mod (rest*B+a.getD k 0) b
    rw [e1]
    generalize (rest*B+a.getD k 0) / b=q at *
    generalize (rest*B+a.getD k 0)%b=r at *
    generalize a.getD k 0=x at *
    generalize val B o=vo at *
    generalize val B (a.take k)=vt at *
    generalize B ^ k=p at *
    have e4:p*(b*q+r)=p*(rest*B+x):=by rw [e3]
    grind
  · rw [getD_set _ _ (by omega),if_neg (by omega)];exact h.zero i (by omega)
theorem D1.done {B:Nat} {a:List Nat} {b:Nat} {o:List Nat} {rest:Nat} (h:D1 B a b o 0 rest):val B o=val B a / b∧rest=val B a%b:=by
  have e:=h.eq
  simp only [Nat.pow_zero,Nat.mul_one,List.take_zero,val,Nat.add_zero] at e
  have hr:=h.hr
  have:=(Nat.div_mod_unique (show 0 < b by omega) (a:=val B a) (c:=rest) (d:=val B o)).2 ⟨by rw [Nat.mul_comm];omega,hr⟩
  exact ⟨this.1.symm,this.2.symm⟩
/-! ## The rows of the long division -/
structure DRows (B A V:Nat) (n:Nat) (u q:List Nat) (k:Nat):Prop where
  ltu:∀d∈u,d < B
  ltq:∀d∈q,d < B
  len:n+k≤u.length
  lq:k≤q.length
  eq:val B u+V*val B q=A
  low:val B u < V*B ^ k
  zero:∀i,i < k→q.getD i 0=0
theorem window {B:Nat} {u:List Nat} {j n V:Nat} (hlt:∀d∈u,d < B) (hlen:j+(n+1)≤u.length) (hV:V < B ^ n) (hlow:val B u < V*B ^ (j+1)) :
    val B u=val B (u.take j)+B ^ j*val B ((u.drop j).take (n+1))∧val B ((u.drop j).take (n+1)) < B*V∧val B (u.drop (j+(n+1)))=0:=by
  have e1:=val_drop B u j (by omega)
  have e2:=val_drop B (u.drop j) (n+1) (by simp;omega)
  rw [List.drop_drop] at e2
  have h0:val B (u.drop (j+(n+1)))=0:=by
    rcases Nat.eq_zero_or_pos (val B (u.drop (j+(n+1)))) with h|h
    · exact h
    · exfalso
      have h1:B ^ j*(B ^ (n+1)*1)≤B ^ j*(B ^ (n+1)*val B (u.drop (j+(n+1)))):=Nat.mul_le_mul_left _ (Nat.mul_le_mul_left _ h)
      have h2:V*B ^ (j+1)≤B ^ n*B ^ (j+1):=Nat.mul_le_mul_right _ (Nat.le_of_lt hV)
      have h3:B ^ j*(B ^ (n+1)*1)=B ^ n*B ^ (j+1):=by rw [Nat.pow_succ,Nat.pow_succ];grind
      have h4:B ^ j*val B (u.drop j)=B ^ j*val B ((u.drop j).take (n+1))+B ^ j*(B ^ (n+1)*val B (u.drop (j+(n+1)))):=by rw [e2,Nat.mul_add]
      omega
  rw [h0,Nat.mul_zero,Nat.add_zero] at e2
  refine ⟨by rw [e1,e2],?_,h0⟩
  rw [e2] at e1
  have hp:0 < B ^ j:=by
    rcases Nat.eq_zero_or_pos (B ^ j) with h|h
    · rw [Nat.pow_succ,h] at hlow;simp at hlow
    · exact h
  have h5:B ^ j*val B ((u.drop j).take (n+1)) < B ^ j*(B*V):=by
    have:V*B ^ (j+1)=B ^ j*(B*V):=by rw [Nat.pow_succ];grind
    omega
  exact Nat.lt_of_mul_lt_mul_left h5
theorem val_rw3 {B:Nat} {o d:List Nat} {j:Nat} (h:j+d.length≤o.length):val B (rw3 o j d)=val B (o.take j)+B ^ j*(val B d+B ^ d.length*val B (o.drop (j+d.length))):=by
  rw [rw3,val_append,val_append,List.length_take,Nat.min_eq_left (by omega)]
theorem DRows.step {B A V n j:Nat} {u q:List Nat} (hB:0 < B) (hVp:0 < V) (hV:V < B ^ n) (h:DRows B A V n u q (j+1)) :
    val B ((u.drop j).take (n+1)) < B*V∧val B ((u.drop j).take (n+1)) / V < B∧
    DRows B A V n (rw3 u j (fixd B (n+1) (val B ((u.drop j).take (n+1))%V))) (q.set j (val B ((u.drop j).take (n+1)) / V)) j:=by
  have hlen:=h.len
  have hlq:=h.lq
  obtain ⟨e1,e2,e3⟩:=window (n:=n) h.ltu (by omega) hV h.low
  have hq:val B ((u.drop j).take (n+1)) / V < B:=by rw [Nat.div_lt_iff_lt_mul hVp];exact e2
  generalize val B ((u.drop j).take (n+1))=W at *
  have hr:=Nat.mod_lt W hVp
  have hfl:=fixd_len B (n+1) (W%V)
  have hfv:val B (fixd B (n+1) (W%V))=W%V:=by
    rw [fixd_val,Nat.mod_eq_of_lt]
    have:B ^ n*1≤B ^ n*B:=Nat.mul_le_mul_left _ hB
    rw [Nat.pow_succ];omega
  have hv:=val_rw3 (B:=B) (o:=u) (j:=j) (d:=fixd B (n+1) (W%V)) (by rw [hfl];omega)
  rw [hfl,e3,hfv] at hv
  simp only [Nat.mul_zero,Nat.add_zero] at hv
  have htake:=val_lt B (u.take j) fun d hd=>h.ltu d (List.mem_of_mem_take hd)
  rw [List.length_take,Nat.min_eq_left (by omega)] at htake
  refine ⟨e2,hq,rw3_lt h.ltu (fixd_lt hB _ _),set_lt h.ltq hq,by rw [rw3_len (by rw [hfl];omega)];omega,by rw [List.length_set];omega,?_,?_,fun i hi=>?_⟩
  · have e4:=val_set B q j (W / V) (by omega)
    rw [h.zero j (by omega),Nat.mul_zero,Nat.add_zero] at e4
    have e5:=h.eq
    have e6:=Nat.div_add_mod W V
    rw [hv,e4]
    rw [e1] at e5
    generalize val B (u.take j)=t at *
    generalize val B q=vq at *
    generalize W / V=x at *
    generalize W%V=r at *
    generalize B ^ j=p at *
    have:p*(V*x+r)=p*W:=by rw [e6]
    grind
  · rw [hv]
    have h':W%V+1≤V:=hr
    have:=Nat.mul_le_mul_left (B ^ j) h'
    rw [Nat.mul_add,Nat.mul_one] at this
    rw [Nat.mul_comm V];omega
  · rw [getD_set _ _ (by omega),if_neg (by omega)];exact h.zero i (by omega)
theorem DRows.done {B A V n:Nat} {u q:List Nat} (h:DRows B A V n u q 0):val B q=A / V∧val B u=A%V:=by
  have e:=h.eq
  have hl:=h.low
  rw [Nat.pow_zero,Nat.mul_one] at hl
  have:=(Nat.div_mod_unique (show 0 < V by omega) (a:=A) (c:=val B u) (d:=val B q)).2 ⟨e,hl⟩
  exact ⟨this.1.symm,this.2.symm⟩
/-! ## Scaling -/
theorem scaled {b:List Nat} {n:Nat} (hn:b.length=n+1) (hb:Dig BB b):64 - bl (b.getD n 0) < 64∧val BB b*2 ^ (64 - bl (b.getD n 0)) < BB ^ (n+1)∧9223372036854775808*BB ^ n≤val BB b*2 ^ (64 - bl (b.getD n 0)):=by
  have ht:b.getD n 0≠0:=by
    have:=hb.last
    intro h
    apply this
    rw [List.getLast?_eq_getElem?,hn,Nat.add_sub_cancel]
    rw [List.getD_eq_getElem?_getD] at h
    cases e:b[n]? with
    | none=>rw [List.getElem?_eq_none_iff] at e;omega
    | some x=>rw [e] at h;simp at h;rw [h]
  have hlt:=getD_lt (by decide) hb.lt n
  obtain ⟨n1,n2,n3⟩:=norm_top ht hlt
  have htop:=val_top1 (B:=BB) hn
  have hlow:=val_lt BB (b.take n) fun d hd=>hb.lt d (List.mem_of_mem_take hd)
  rw [List.length_take,Nat.min_eq_left (by omega)] at hlow
  refine ⟨n3,?_,?_⟩
  · have h1:(b.getD n 0+1)*2 ^ (64 - bl (b.getD n 0))≤BB:=by
      have e2:BB=2 ^ bl (b.getD n 0)*2 ^ (64 - bl (b.getD n 0)):=by
        rw [←Nat.pow_add,show bl (b.getD n 0)+(64 - bl (b.getD n 0))=64 by have:=bl_le_of (n:=64) hlt;omega]
      conv=>rhs;rw [e2]
      exact Nat.mul_le_mul_right _ (bl_lt _)
    have h2:val BB b+1≤(b.getD n 0+1)*BB ^ n:=by rw [Nat.add_mul,htop];omega
    have h3:=Nat.mul_le_mul_right (2 ^ (64 - bl (b.getD n 0))) h2
    have h4:=Nat.mul_le_mul_right (BB ^ n) h1
    have hp:=Nat.two_pow_pos (64 - bl (b.getD n 0))
    have h5:(b.getD n 0+1)*BB ^ n*2 ^ (64 - bl (b.getD n 0))=(b.getD n 0+1)*2 ^ (64 - bl (b.getD n 0))*BB ^ n:=by
      rw [Nat.mul_assoc,Nat.mul_comm (BB ^ n),←Nat.mul_assoc]
    rw [h5] at h3
    rw [Nat.add_mul,Nat.one_mul] at h3
    rw [Nat.pow_succ,Nat.mul_comm (BB ^ n)]
    omega
  · have h1:=Nat.mul_le_mul_right (BB ^ n) n1
    have h2:b.getD n 0*BB ^ n≤val BB b:=by omega
    have h3:=Nat.mul_le_mul_right (2 ^ (64 - bl (b.getD n 0))) h2
    have h5:b.getD n 0*BB ^ n*2 ^ (64 - bl (b.getD n 0))=b.getD n 0*2 ^ (64 - bl (b.getD n 0))*BB ^ n:=by
      rw [Nat.mul_assoc,Nat.mul_comm (BB ^ n),←Nat.mul_assoc]
    rw [h5] at h3
    omega
theorem unscale {X s:Nat} (hs:s < 64):X%BB / 2 ^ s < 2 ^ (64 - s)∧2 ^ (64 - s)∣X / BB%BB*2 ^ (64 - s)%BB∧X%BB / 2 ^ s+X / BB%BB*2 ^ (64 - s)%BB=X / 2 ^ s%BB:=by
  have hB:BB=2 ^ s*2 ^ (64 - s):=by rw [←Nat.pow_add,show s+(64 - s)=64 by omega]
  have hp:=Nat.two_pow_pos s
  have hq:=Nat.two_pow_pos (64 - s)
  have h1:X%BB / 2 ^ s < 2 ^ (64 - s):=by
    rw [Nat.div_lt_iff_lt_mul hp,Nat.mul_comm,←hB];exact Nat.mod_lt _ (by decide)
  have h2:2 ^ (64 - s)∣X / BB%BB*2 ^ (64 - s)%BB:=by
    conv=>rhs;rhs;rw [hB]
    rw [Nat.mul_mod_mul_right]
    exact Nat.dvd_mul_left _ _
  refine ⟨h1,h2,?_⟩
  have e1:X / 2 ^ s=X / BB*2 ^ (64 - s)+X%BB / 2 ^ s:=by
    have:=Nat.div_add_mod X BB
    conv=>lhs;rw [←this]
    have h3:BB*(X / BB)=2 ^ s*(X / BB*2 ^ (64 - s)):=by
      conv=>lhs;lhs;rw [hB]
      rw [Nat.mul_assoc,Nat.mul_comm (2 ^ (64 - s))]
    rw [h3,Nat.mul_add_div hp]
  have e2:X / BB*2 ^ (64 - s)%BB=X / BB%BB*2 ^ (64 - s)%BB:=by
    exact (Nat.mod_mul_mod _ _ _).symm
  have h4:X / BB%BB*2 ^ (64 - s)%BB+2 ^ (64 - s)≤BB:=by
    obtain ⟨c,hc⟩:=h2
    have h5:X / BB%BB*2 ^ (64 - s)%BB < BB:=Nat.mod_lt _ (by decide)
    rw [hc] at h5 ⊢
    have:c < 2 ^ s:=by
      rcases Nat.lt_or_ge c (2 ^ s) with h|h
      · exact h
      · have:=Nat.mul_le_mul_left (2 ^ (64 - s)) h
        rw [Nat.mul_comm _ (2 ^ s),←hB] at this;omega
    have h6:2 ^ (64 - s)*(c+1)≤2 ^ (64 - s)*2 ^ s:=Nat.mul_le_mul_left _ this
    rw [Nat.mul_comm _ (2 ^ s),←hB,Nat.mul_add,Nat.mul_one] at h6
    exact h6
  rw [e1,Nat.add_mod,e2,Nat.mod_eq_of_lt (show X%BB / 2 ^ s < BB by
    have:X%BB < BB:=Nat.mod_lt _ (by decide)
    exact Nat.lt_of_le_of_lt (Nat.div_le_self _ _) this),Nat.mod_eq_of_lt (show X / BB%BB*2 ^ (64 - s)%BB+X%BB / 2 ^ s < BB by omega),Nat.add_comm]
theorem scale_div (M s i:Nat):M*2 ^ s / BB ^ i / 2 ^ s=M / BB ^ i:=by
  rw [Nat.div_div_eq_div_mul,Nat.mul_div_mul_right _ _ (Nat.two_pow_pos s)]
theorem DRows.start {A V s n la:Nat} (hA:A < BB ^ la) (hs:s < 64) (hV:9223372036854775808*BB ^ (n+1)≤V) (hn:n+2≤la) :
    DRows BB (A*2 ^ s) V (n+2) (fixd BB (la+1) (A*2 ^ s)) (List.replicate (la - (n+2)+1) 0) (la - (n+2)+1):=by
  have h2:2 ^ s≤9223372036854775808:=Nat.pow_le_pow_right (by decide) (show s≤63 by omega)
  have h3:A*2 ^ s < BB ^ la*9223372036854775808:=by
    have h4:A*2 ^ s≤A*9223372036854775808:=Nat.mul_le_mul_left _ h2
    have h5:A*9223372036854775808 < BB ^ la*9223372036854775808:=Nat.mul_lt_mul_of_pos_right hA (by decide)
    omega
  have h6:BB ^ la*9223372036854775808≤V*BB ^ (la - (n+2)+1):=by
    have h7:=Nat.mul_le_mul_right (BB ^ (la - (n+2)+1)) hV
    have h8:9223372036854775808*BB ^ (n+1)*BB ^ (la - (n+2)+1)=BB ^ la*9223372036854775808:=by
      rw [Nat.mul_assoc,←Nat.pow_add,show n+1+(la - (n+2)+1)=la by omega,Nat.mul_comm]
    omega
  have hv:val BB (fixd BB (la+1) (A*2 ^ s))=A*2 ^ s:=by
    rw [fixd_val,Nat.mod_eq_of_lt]
    rw [Nat.pow_succ]
    have:BB ^ la*9223372036854775808≤BB ^ la*BB:=Nat.mul_le_mul_left _ (by decide)
    exact Nat.lt_of_lt_of_le h3 this
  refine ⟨fixd_lt (by decide) _ _,fun d hd=>by rw [(List.mem_replicate.1 hd).2];decide,by rw [fixd_len];omega,by simp,by rw [hv,val_replicate];simp,by rw [hv];omega,fun k _=>by
    simp only [List.getD_eq_getElem?_getD,List.getElem?_replicate];split <;> rfl⟩
theorem digs_len {n m:Nat} (h1:BB ^ n≤m) (h2:m < BB ^ (n+1)):(digs BB m).length=n+1:=by
  have h3:=digs_len_le (B:=BB) (by decide) h2
  have h4:=digs_lt (B:=BB) (n:=m) (by decide)
  rcases Nat.lt_or_ge n (digs BB m).length with h|h
  · omega
  · have:=Nat.pow_le_pow_right (show 0 < BB by decide) h
    omega
theorem top_pos {b:List Nat} {n:Nat} (hn:b.length=n+1) (hb:Dig BB b):0 < b.getD n 0:=by
  have:=hb.last
  rcases Nat.eq_zero_or_pos (b.getD n 0) with h|h
  · exfalso
    apply this
    rw [List.getLast?_eq_getElem?,hn,Nat.add_sub_cancel]
    rw [List.getD_eq_getElem?_getD] at h
    cases e:b[n]? with
    | none=>rw [List.getElem?_eq_none_iff] at e;omega
    | some x=>rw [e] at h;simp at h;rw [h]
  · exact h
def unrow (m M s i:Nat):List Nat:=(fixd BB m M).take i++(fixd BB m (M*2 ^ s)).drop i
theorem unrow_len {m M s i:Nat} (h:i≤m):(unrow m M s i).length=m:=by simp [unrow,fixd_len];omega
theorem unrow_get {m M s i:Nat} (h:i≤m) (k:Nat):(unrow m M s i).getD k 0=if k < i then M / BB ^ k%BB else if k < m then M*2 ^ s / BB ^ k%BB else 0:=by
  have e1:=fixd_get (B:=BB) m M k
  have e2:=fixd_get (B:=BB) m (M*2 ^ s) k
  rw [List.getD_eq_getElem?_getD] at e1 e2
  simp only [unrow,List.getD_eq_getElem?_getD]
  rcases Nat.lt_or_ge k i with h1|h1
  · rw [List.getElem?_append_left (by simp [fixd_len];omega),List.getElem?_take,if_pos h1,if_pos h1,e1,if_pos (by omega)]
  · rw [List.getElem?_append_right (by simp [fixd_len];omega),List.length_take,fixd_len,Nat.min_eq_left h,List.getElem?_drop,show i+(k - i)=k by omega,if_neg (by omega),e2]
theorem unrow_set {m M s i:Nat} (h:i < m):(unrow m M s i).set i (M / BB ^ i%BB)=unrow m M s (i+1):=by
  apply list_eq_of_getD
  · rw [List.length_set,unrow_len (by omega),unrow_len (by omega)]
  · intro k hk
    rw [getD_set _ _ (by rw [unrow_len (by omega)];omega),unrow_get (by omega),unrow_get (by omega)]
    by_cases e:k=i
    · subst e;rw [if_pos rfl,if_pos (by omega)]
    · rw [if_neg e]
      by_cases e2:k < i
      · rw [if_pos e2,if_pos (by omega)]
      · have e3:¬k < i+1:=by omega
        simp only [e2,e3,if_false]
theorem unrow_zero {m M s:Nat}:unrow m M s 0=fixd BB m (M*2 ^ s):=by simp [unrow]
theorem unrow_take {m M s n:Nat} (h:n≤m) (hM:M < BB ^ n):trimL ((unrow m M s n).take n)=digs BB M:=by
  have e:(unrow m M s n).take n=(fixd BB m M).take n:=by
    rw [unrow,List.take_append_of_le_length (by simp [fixd_len];omega),List.take_take,Nat.min_self]
  rw [e,trimL_digs (by decide) (fun d hd=>fixd_lt (by decide) _ _ d (List.mem_of_mem_take hd))]
  congr 1
  have h1:=val_drop BB (fixd BB m M) n (by rw [fixd_len];exact h)
  rw [fixd_val,Nat.mod_eq_of_lt (Nat.lt_of_lt_of_le hM (Nat.pow_le_pow_right (by decide) h))] at h1
  have h2:=val_lt BB ((fixd BB m M).take n) fun d hd=>fixd_lt (by decide) _ _ d (List.mem_of_mem_take hd)
  rw [List.length_take,fixd_len,Nat.min_eq_left h] at h2
  rcases Nat.eq_zero_or_pos (val BB ((fixd BB m M).drop n)) with h3|h3
  · rw [h3] at h1;omega
  · exfalso
    have:=Nat.mul_le_mul_left (BB ^ n) h3
    omega
end Go.Ax
end
