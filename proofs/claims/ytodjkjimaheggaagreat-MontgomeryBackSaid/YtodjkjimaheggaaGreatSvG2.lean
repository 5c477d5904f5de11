/- Texts of the evaluator, of the logic over it, of plain arithmetic. -/
import Derived.Test.YtodjkjimaheggaaGreatSvG1
namespace Go.Sv
theorem z2r (n:Int):z99 .u64 n=n % 18446744073709551616:=by
 rw[z29]; rfl
theorem z7j (n:Int):z99 .u8 n=n % 256:=by
 rw[z29]; rfl
theorem z2o {n:Int} (h:inI n):z99 .i64 n=n:=by
 rw[z29]
 obtain⟨h1,h2⟩:=h
 show (if (true && decide (n % 18446744073709551616 ≥ 9223372036854775808))=true then n % 18446744073709551616 - 18446744073709551616 else n % 18446744073709551616)=n
 simp only[Bool.true_and,decide_eq_true_eq]
 split <;> omega
theorem z7z (a b:Int):eqI a b=decide (a=b):=by
 rw[z8w,Bool.eq_iff_iff]; simp
theorem z2p (a b:Int):ltI a b=decide (a < b):=z6l a b
theorem z4i (a b:Int):(!(decide (b < a)))=decide (a≤b):=by
 rw[Bool.eq_iff_iff]; simp
theorem zup (x:UInt64):Nat.blt x.toNat (z8m .u64)=true:=by
 have:=x.toNat_lt
 unfold Nat.blt
 exact Nat.ble_eq_true_of_le (by show x.toNat+1≤2 * 9223372036854775808; omega)
theorem fullK_u8 (x:UInt8):Nat.blt x.toNat (z8m .u8)=true:=by
 have:=x.toNat_lt
 unfold Nat.blt
 exact Nat.ble_eq_true_of_le (by show x.toNat+1≤2 * 128; omega)
variable {c : Cx} {K : LV → Prop}
theorem AR.u' {x:UInt64} {n:Int} (h:n=Int.ofNat x.toNat):AR c (.u x) (.int .u64 n):=by subst h; exact .u x
theorem AR.b' {x:UInt8} {n:Int} (h:n=Int.ofNat x.toNat):AR c (.b x) (.int .u8 n):=by subst h; exact .b x
theorem AR.bool' {x y:Bool} (h:y=x):AR c (.bool x) (.bool y):=by subst h; exact .bool y
theorem zkf (a b:UInt64):decide (Int.ofNat a.toNat=Int.ofNat b.toNat)=decide (a=b):=by
 rw[Bool.eq_iff_iff]; simp only[decide_eq_true_eq]
 constructor
 ·intro h; exact UInt64.toNat_inj.1 (Int.ofNat.inj h)
 ·intro h; rw[h]
theorem zf6 (a b:UInt64):decide (Int.ofNat a.toNat < Int.ofNat b.toNat)=decide (a < b):=by
 rw[Bool.eq_iff_iff]; simp only[decide_eq_true_eq,UInt64.lt_iff_toNat_lt]
 exact Int.ofNat_lt
theorem zq3 (a b:UInt64):decide (Int.ofNat a.toNat≤Int.ofNat b.toNat)=decide (a≤b):=by
 rw[Bool.eq_iff_iff]; simp only[decide_eq_true_eq,UInt64.le_iff_toNat_le]
 exact Int.ofNat_le
theorem zqd (a b:UInt8):decide (Int.ofNat a.toNat=Int.ofNat b.toNat)=decide (a=b):=by
 rw[Bool.eq_iff_iff]; simp only[decide_eq_true_eq]
 constructor
 ·intro h; exact UInt8.toNat_inj.1 (Int.ofNat.inj h)
 ·intro h; rw[h]
theorem zqu (a b:UInt8):decide (Int.ofNat a.toNat < Int.ofNat b.toNat)=decide (a < b):=by
 rw[Bool.eq_iff_iff]; simp only[decide_eq_true_eq,UInt8.lt_iff_toNat_lt]
 exact Int.ofNat_lt
theorem zq0 (a b:UInt8):decide (Int.ofNat a.toNat≤Int.ofNat b.toNat)=decide (a≤b):=by
 rw[Bool.eq_iff_iff]; simp only[decide_eq_true_eq,UInt8.le_iff_toNat_le]
 exact Int.ofNat_le
def VRes (c:Cx) (K:LV→Prop) (r:Option AV):Prop:=∃ v a,r=some a∧AR c v a∧K v
theorem VRes.mk {v:LV} {a:AV} (h:AR c v a) (k:K v):VRes c K (some a):=⟨v,a,rfl,h,k⟩
theorem shl_u (a:UInt64) (s:Nat):z99 .u64 (.ofNat (Nat.mul a.toNat (Nat.pow 2 (minN s (IntKind.bits .u64)))))=Int.ofNat (shlU a s).toNat:=by
 rw[z2r]
 have hm:minN s (IntKind.bits .u64)=min s 64:=by
  unfold minN
  by_cases h:s≤64
  ·rw[show Nat.ble s (IntKind.bits .u64)=true from Nat.ble_eq_true_of_le h]; simp[Nat.min_eq_left h]
  ·have:Nat.ble s (IntKind.bits .u64)=false:=by
    cases hb:Nat.ble s (IntKind.bits .u64) with
    | false=>rfl
    | true=>exact absurd (Nat.le_of_ble_eq_true hb) h
   rw[this]; simp only[IntKind.bits]; omega
 rw[hm]
 rw[z75,UInt64.toNat_ofNat']
 show (Int.ofNat (a.toNat * 2 ^ min s 64)) % 18446744073709551616=Int.ofNat (a.toNat * 2 ^ s % 2 ^ 64)
 by_cases h:s≤64
 ·rw[Nat.min_eq_left h]
  rfl
 ·rw[Nat.min_eq_right (by omega)]
  have e:2 ^ s=2 ^ 64 * 2 ^ (s - 64):=by rw[←Nat.pow_add]; congr 1; omega
  have:a.toNat * 2 ^ s % 2 ^ 64=0:=by
   rw[e,←Nat.mul_assoc,Nat.mul_comm a.toNat,Nat.mul_assoc,Nat.mul_mod_right]
  rw[this]
  have h2:a.toNat * 2 ^ 64 % 2 ^ 64=0:=Nat.mul_mod_left _ _
  show Int.ofNat (a.toNat * 2 ^ 64 % 2 ^ 64)=0
  rw[h2]; rfl
theorem shr_u (a:UInt64) (s:Nat):Int.ofNat (Nat.div a.toNat (Nat.pow 2 (minN s (IntKind.bits .u64))))=Int.ofNat (shrU a s).toNat:=by
 have hm:minN s (IntKind.bits .u64)=min s 64:=by
  unfold minN
  by_cases h:s≤64
  ·rw[show Nat.ble s (IntKind.bits .u64)=true from Nat.ble_eq_true_of_le h]; simp[Nat.min_eq_left h]
  ·have:Nat.ble s (IntKind.bits .u64)=false:=by
    cases hb:Nat.ble s (IntKind.bits .u64) with
    | false=>rfl
    | true=>exact absurd (Nat.le_of_ble_eq_true hb) h
   rw[this]; simp only[IntKind.bits]; omega
 rw[hm]
 rw[z6a,UInt64.toNat_ofNat']
 have hlt:=a.toNat_lt
 show Int.ofNat (a.toNat / 2 ^ min s 64)=Int.ofNat (a.toNat / 2 ^ s % 2 ^ 64)
 have h1:a.toNat / 2 ^ s % 2 ^ 64=a.toNat / 2 ^ s:=Nat.mod_eq_of_lt (Nat.lt_of_le_of_lt (Nat.div_le_self _ _) hlt)
 rw[h1]
 by_cases h:s≤64
 ·rw[Nat.min_eq_left h]
 ·rw[Nat.min_eq_right (by omega),Nat.div_eq_of_lt hlt]
  rw[Nat.div_eq_of_lt (Nat.lt_of_lt_of_le hlt (Nat.pow_le_pow_right (by omega) (by omega)))]
theorem uuL_ok {P:Program} {op:BinOp} {g:Bool} {t:TypeId} {a b:UInt64} (h:uuL op a b K):VRes c K (binA P op g t (.int .u64 (Int.ofNat a.toNat)) (.int .u64 (Int.ofNat b.toNat))):=by
 have hk:z7g .u64 .u64=true:=rfl
 have hla:=a.toNat_lt
 have hlb:=b.toNat_lt
 cases op <;> simp only[uuL,z2h,z4n,zfh,divU_eq,zfg,z65,z9d,z7q,ztt] at h <;> simp only[binA,hk,zo4,zel,zm7,zup]
 case add=>exact .mk (.u' (by rw[z2r,UInt64.toNat_add]; rfl)) h
 case sub =>
  refine .mk (.u' ?_) h
  rw[z2r,UInt64.toNat_sub]
  show (Int.ofNat a.toNat - Int.ofNat b.toNat) % _=((2 ^ 64 - b.toNat+a.toNat) % 2 ^ 64:Nat)
  simp only[Int.ofNat_eq_natCast]
  omega
 case mul=>exact .mk (.u' (by rw[z2r,UInt64.toNat_mul]; rfl)) h
 case quo =>
  obtain⟨h1,h2⟩:=h
  have hz:isZ (Int.ofNat b.toNat)=false:=by
   unfold isZ
   cases hb:Nat.beq b.toNat 0 with
   | false=>exact hb
   | true=>exact absurd (UInt64.toNat_inj.1 (Nat.eq_of_beq_eq_true hb)) h1
  simp only[hz]
  refine .mk (.u' ?_) h2
  rw[z2r,UInt64.toNat_div]
  show (Int.tdiv (Int.ofNat a.toNat) (Int.ofNat b.toNat)) % _=Int.ofNat (a.toNat / b.toNat)
  have:Int.tdiv (Int.ofNat a.toNat) (Int.ofNat b.toNat)=Int.ofNat (a.toNat / b.toNat):=rfl
  rw[this]
  exact Int.emod_eq_of_lt (Int.natCast_nonneg _) (by have:=Nat.div_le_self a.toNat b.toNat; simp only[Int.ofNat_eq_natCast]; omega)
 case rem =>
  obtain⟨h1,h2⟩:=h
  have hz:isZ (Int.ofNat b.toNat)=false:=by
   unfold isZ
   cases hb:Nat.beq b.toNat 0 with
   | false=>exact hb
   | true=>exact absurd (UInt64.toNat_inj.1 (Nat.eq_of_beq_eq_true hb)) h1
  simp only[hz]
  exact .mk (.u' (by rw[UInt64.toNat_mod]; rfl)) h2
 case and =>
  refine .mk (.u' ?_) h
  rw[z2r,UInt64.toNat_and]
  have:a.toNat &&& b.toNat < 2 ^ 64:=Nat.and_lt_two_pow _ hlb
  exact Int.emod_eq_of_lt (Int.natCast_nonneg _) (by show Int.ofNat (a.toNat &&& b.toNat) < _; simp only[Int.ofNat_eq_natCast]; omega)
 case or =>
  refine .mk (.u' ?_) h
  rw[z2r,UInt64.toNat_or]
  have:a.toNat ||| b.toNat < 2 ^ 64:=Nat.or_lt_two_pow hla hlb
  exact Int.emod_eq_of_lt (Int.natCast_nonneg _) (by show Int.ofNat (a.toNat ||| b.toNat) < _; simp only[Int.ofNat_eq_natCast]; omega)
 case xor =>
  refine .mk (.u' ?_) h
  rw[z2r,UInt64.toNat_xor]
  have:a.toNat ^^^ b.toNat < 2 ^ 64:=Nat.xor_lt_two_pow hla hlb
  exact Int.emod_eq_of_lt (Int.natCast_nonneg _) (by show Int.ofNat (a.toNat ^^^ b.toNat) < _; simp only[Int.ofNat_eq_natCast]; omega)
 case andNot =>
  refine .mk (.u' ?_) h
  have e:Nat.xor a.toNat (Nat.land a.toNat b.toNat)=(a &&& ~~~b).toNat:=by
   show a.toNat ^^^ (a.toNat &&& b.toNat)=_
   rw[UInt64.toNat_and,UInt64.toNat_not]
   refine Nat.eq_of_testBit_eq fun i=>?_
   rw[Nat.testBit_xor,Nat.testBit_and,Nat.testBit_and]
   have:(UInt64.size - 1 - b.toNat).testBit i=(decide (i < 64) && !b.toNat.testBit i):=by
    have:=Nat.testBit_two_pow_sub_succ hlb i
    rw[show UInt64.size - 1 - b.toNat=2 ^ 64 - (b.toNat+1) from by show 18446744073709551616 - 1 - b.toNat=_; omega,this]
   rw[this]
   by_cases hi:i < 64
   ·simp[hi]; cases a.toNat.testBit i <;> cases b.toNat.testBit i <;> rfl
   ·have:a.toNat.testBit i=false:=Nat.testBit_lt_two_pow (Nat.lt_of_lt_of_le hla (Nat.pow_le_pow_right (by omega) (by omega)))
    simp[this]
  rw[e,z2r]
  exact Int.emod_eq_of_lt (Int.natCast_nonneg _) (by have:=(a &&& ~~~b).toNat_lt; simp only[Int.ofNat_eq_natCast]; omega)
 case shl=>exact .mk (.u' (shl_u a b.toNat)) h
 case shr=>exact .mk (.u' (shr_u a b.toNat)) h
 case eql=>exact .mk (.bool' (by rw[z7z,zkf])) h
 case neq=>exact .mk (.bool' (by rw[z7z,zkf]; simp)) h
 case lss=>exact .mk (.bool' (by rw[z2p,zf6])) h
 case leq=>exact .mk (.bool' (by rw[z2p,z4i,zq3])) h
 case gtr=>exact .mk (.bool' (by rw[z2p,zf6])) h
 case geq=>exact .mk (.bool' (by rw[z2p,z4i,zq3])) h
theorem bbL_ok {P:Program} {op:BinOp} {g:Bool} {t:TypeId} {a b:UInt8} (h:bbL op a b K):VRes c K (binA P op g t (.int .u8 (Int.ofNat a.toNat)) (.int .u8 (Int.ofNat b.toNat))):=by
 have hk:z7g .u8 .u8=true:=rfl
 have hla:=a.toNat_lt
 have hlb:=b.toNat_lt
 cases op <;> simp only[bbL,addB_eq,subB_eq,andB_eq,orB_eq] at h <;> simp only[binA,hk,zo4,zel,fullK_u8]
 case add=>exact .mk (.b' (by rw[z7j,UInt8.toNat_add]; rfl)) h
 case sub =>
  refine .mk (.b' ?_) h
  rw[z7j,UInt8.toNat_sub]
  show (Int.ofNat a.toNat - Int.ofNat b.toNat) % _=((2 ^ 8 - b.toNat+a.toNat) % 2 ^ 8:Nat)
  simp only[Int.ofNat_eq_natCast]
  omega
 case and =>
  refine .mk (.b' ?_) h
  rw[z7j,UInt8.toNat_and]
  have:a.toNat &&& b.toNat < 2 ^ 8:=Nat.and_lt_two_pow _ hlb
  exact Int.emod_eq_of_lt (Int.natCast_nonneg _) (by show Int.ofNat (a.toNat &&& b.toNat) < _; simp only[Int.ofNat_eq_natCast]; omega)
 case or =>
  refine .mk (.b' ?_) h
  rw[z7j,UInt8.toNat_or]
  have:a.toNat ||| b.toNat < 2 ^ 8:=Nat.or_lt_two_pow hla hlb
  exact Int.emod_eq_of_lt (Int.natCast_nonneg _) (by show Int.ofNat (a.toNat ||| b.toNat) < _; simp only[Int.ofNat_eq_natCast]; omega)
 case eql=>exact .mk (.bool' (by rw[z7z,zqd])) h
 case neq=>exact .mk (.bool' (by rw[z7z,zqd]; simp)) h
 case lss=>exact .mk (.bool' (by rw[z2p,zqu])) h
 case leq=>exact .mk (.bool' (by rw[z2p,z4i,zq0])) h
 case gtr=>exact .mk (.bool' (by rw[z2p,zqu])) h
 case geq=>exact .mk (.bool' (by rw[z2p,z4i,zq0])) h
theorem AR.i' {x n:Int} (h:n=x):AR c (.i x) (.int .i64 n):=by subst h; exact .i n
theorem zla {b:Int} (h:b≠0):isZ b=false:=by
 unfold isZ
 split
 ·rename_i n
  cases hb:Nat.beq n 0 with
  | false=>rfl
  | true=>exact absurd (by rw[Nat.eq_of_beq_eq_true hb]; rfl) h
 ·rfl
theorem zkg {P:Program} {g:Bool} {t:TypeId} {a:Int} {k:IntKind} {s:Int} (ha:0≤a) (h0:0≤s) (h64:s≤64) :
  binA P .shl g t (.int .i64 a) (.int k s)=some (.int .i64 (z99 .i64 (a * 2 ^ s.toNat)))∧binA P .shr g t (.int .i64 a) (.int k s)=some (.int .i64 (a / 2 ^ s.toNat)):=by
 obtain⟨x,rfl⟩:=Int.eq_ofNat_of_zero_le ha
 obtain⟨y,rfl⟩:=Int.eq_ofNat_of_zero_le h0
 have hm:minN y (IntKind.bits .i64)=y:=by
  unfold minN
  rw[show Nat.ble y (IntKind.bits .i64)=true from Nat.ble_eq_true_of_le (by simp only[IntKind.bits]; omega)]
 constructor
 ·show some (AV.int .i64 (z99 .i64 (.ofNat (Nat.mul x (Nat.pow 2 (minN y (IntKind.bits .i64)))))))=_
  rw[hm]
  congr 3
 ·show some (AV.int .i64 (.ofNat (Nat.div x (Nat.pow 2 (minN y (IntKind.bits .i64))))))=_
  rw[hm]
  congr 2
theorem iiL_ok {P:Program} {op:BinOp} {g:Bool} {t:TypeId} {a b:Int} (h:iiL op a b K):VRes c K (binA P op g t (.int .i64 a) (.int .i64 b)):=by
 have hk:z7g .i64 .i64=true:=rfl
 cases op <;> simp only[iiL] at h
 case shl =>
  obtain⟨h1,h2,h3,h4,h5⟩:=h
  rw[(zkg h1 h2 h3).1,z2o h4]
  exact .mk (.i _) h5
 case shr =>
  obtain⟨h1,h2,h3,h5⟩:=h
  rw[(zkg h1 h2 h3).2]
  exact .mk (.i _) h5
 all_goals simp only[binA,hk,zo4]
 case and =>
  obtain⟨h1,h2,h3,h4,h5⟩:=h
  obtain⟨x,rfl⟩:=Int.eq_ofNat_of_zero_le h1
  obtain⟨y,rfl⟩:=Int.eq_ofNat_of_zero_le h3
  have b1:Nat.blt x (z8m .i64)=true:=by unfold Nat.blt; exact Nat.ble_eq_true_of_le (by show x+1≤2 * 9223372036854775808; omega)
  have b2:Nat.blt y (z8m .i64)=true:=by unfold Nat.blt; exact Nat.ble_eq_true_of_le (by show y+1≤2 * 9223372036854775808; omega)
  have hx:x &&& y < 2 ^ 63:=Nat.and_lt_two_pow _ (by omega)
  show VRes c K (zel Nat.land .i64 (.ofNat x) (.ofNat y))
  simp only[zel,b1,b2]
  exact .mk (.i' (z2o ⟨by simp only[Int.ofNat_eq_natCast]; omega,by simp only[Int.ofNat_eq_natCast]; exact Int.ofNat_lt.2 hx⟩)) h5
 case or =>
  obtain⟨h1,h2,h3,h4,h5⟩:=h
  obtain⟨x,rfl⟩:=Int.eq_ofNat_of_zero_le h1
  obtain⟨y,rfl⟩:=Int.eq_ofNat_of_zero_le h3
  have b1:Nat.blt x (z8m .i64)=true:=by unfold Nat.blt; exact Nat.ble_eq_true_of_le (by show x+1≤2 * 9223372036854775808; omega)
  have b2:Nat.blt y (z8m .i64)=true:=by unfold Nat.blt; exact Nat.ble_eq_true_of_le (by show y+1≤2 * 9223372036854775808; omega)
  have hx:x ||| y < 2 ^ 63:=Nat.or_lt_two_pow (by omega) (by omega)
  show VRes c K (zel Nat.lor .i64 (.ofNat x) (.ofNat y))
  simp only[zel,b1,b2]
  exact .mk (.i' (z2o ⟨by simp only[Int.ofNat_eq_natCast]; omega,by simp only[Int.ofNat_eq_natCast]; exact Int.ofNat_lt.2 hx⟩)) h5
 case add=>exact .mk (.i' (z2o h.1)) h.2
 case sub=>exact .mk (.i' (z2o h.1)) h.2
 case mul=>exact .mk (.i' (z2o h.1)) h.2
 case quo=>rw[zla h.1]; exact .mk (.i' (z2o h.2.1)) h.2.2
 case rem=>rw[zla h.1]; exact .mk (.i _) h.2
 case eql=>exact .mk (.bool' (by rw[z7z])) h
 case neq=>exact .mk (.bool' (by rw[z7z]; simp)) h
 case lss=>exact .mk (.bool' (by rw[z2p])) h
 case leq=>exact .mk (.bool' (by rw[z2p,z4i])) h
 case gtr=>exact .mk (.bool' (by rw[z2p])) h
 case geq=>exact .mk (.bool' (by rw[z2p,z4i])) h
theorem kkL_ok {P:Program} {op:BinOp} {g:Bool} {t:TypeId} {k:IntKind} {a b:Int} (h:kkL op a b K):VRes c K (binA P op g t (.int k a) (.int k b)):=by
 have hk:z7g k k=true:=by cases k <;> rfl
 cases op <;> simp only[kkL] at h <;> simp only[binA,hk,zo4]
 case eql=>exact .mk (.bool' (by rw[z7z])) h
 case neq=>exact .mk (.bool' (by rw[z7z]; simp)) h
 case lss=>exact .mk (.bool' (by rw[z2p])) h
 case leq=>exact .mk (.bool' (by rw[z2p,z4i])) h
 case gtr=>exact .mk (.bool' (by rw[z2p])) h
 case geq=>exact .mk (.bool' (by rw[z2p,z4i])) h
theorem zwt (a b:List UInt8):(Nat.beq a.length b.length && Nat.beq (z1g a) (z1g b))=decide (a=b):=by
 rw[Bool.eq_iff_iff]
 simp only[Bool.and_eq_true,decide_eq_true_eq]
 constructor
 ·rintro⟨h1,h2⟩
  exact packL_inj (Nat.eq_of_beq_eq_true h1) (Nat.eq_of_beq_eq_true h2)
 ·intro h; subst h; simp
theorem AR.str' {l:List UInt8} {n m:Nat} (h1:n=l.length) (h2:m=z1g l):AR c (.str l) (.str n m):=by subst h1 h2; exact .str l
theorem ssL_ok {P:Program} {op:BinOp} {g:Bool} {t:TypeId} {a b:List UInt8} (h:ssL op a b K):VRes c K (binA P op g t (.str a.length (z1g a)) (.str b.length (z1g b))):=by
 cases op <;> simp only[ssL] at h <;> simp only[binA,zr8]
 case add =>
  have hb:Nat.ble (Nat.add a.length b.length) lim=true:=Nat.ble_eq_true_of_le h.1
  simp only[hb]
  refine .mk (.str' (by simp) ?_) h.2
  rw[packL_append]; rfl
 case eql=>exact .mk (.bool' (zwt a b)) h
 case neq=>exact .mk (.bool' (by rw[zwt]; simp)) h
theorem zo1 {P:Program} {op:BinOp} {g:Bool} {t:TypeId} {a b:AV} {r:Bool} (hb:binA P op g t a b=match op with | .eql=>yesB (eqA P g t a b) | .neq=>notB (eqA P g t a b) | _=>none) (h:nilL P op g t a b r K):VRes c K (binA P op g t a b):=by
 rw[hb]
 cases op <;> simp only[nilL] at h
 case eql=>rw[h.1]; exact .mk (.bool _) h.2
 case neq=>rw[h.1]; exact .mk (.bool _) h.2
end Go.Sv
namespace Go.Sv
noncomputable def ρA (E:Tr AV):Env:=fun t=>getP (z09 t) E
theorem zpa (E:Tr AV):EnvR E (ρA E):=fun _ _=>rfl
theorem z1b {c:Cx} {ρ:LEnv} {E:Tr AV} (hE:EnvL c ρ E) {x:Lx} (h:x.ok=true):AR c (x.ev ρ) (x.r.ev (ρA E)):=by
 cases x with
 | t i=>exact hE i
 | c v=>exact cst_AR c h
theorem zqz {c:Cx} {ρ:LEnv} {E:Tr AV} (hE:EnvL c ρ E):∀ {l:List Lx},l.all Lx.ok=true→ARs c (l.map (·.ev ρ)) ((rxs l).map (·.ev (ρA E)))
 | [],_=>.nil
 | x::l,h=>by
  simp only[List.all_cons,Bool.and_eq_true] at h
  exact .cons (z1b hE h.1) (zqz hE h.2)
def zhr:Option Lx→Bool
 | none=>true
 | some x=>x.ok
def LOp.ok:LOp→Bool
 | .move x=>x.ok
 | .pick c a b=>c.ok && a.ok && b.ok
 | .alloc l=>l.all LV.scal
 | .box x=>x.ok
 | .build cs ps=>cs.all LV.scal && ps.all (·.2.2.ok)
 | .buildSl _ _ cs ps=>cs.all LV.scal && ps.all (·.2.2.ok)
 | .load1 x=>x.ok
 | .loadN _ x=>x.ok
 | .store _ x y=>x.ok && y.ok
 | .nilChk x=>x.ok
 | .bin _ _ _ x y=>x.ok && y.ok
 | .un _ x=>x.ok
 | .cvInt _ x=>x.ok
 | .cvStr x=>x.ok
 | .cvSame x=>x.ok
 | .cvBytes x=>x.ok
 | .mkFunc _ a b=>a.all Lx.ok && b.all Lx.ok
 | .mkSl _ z l c=>z.all LV.scal && l.ok && c.ok
 | .slStr x lo hi=>x.ok && zhr lo && zhr hi
 | .slSl _ x lo hi=>x.ok && zhr lo && zhr hi
 | .slSl3 _ x lo hi mx=>x.ok && zhr lo && zhr hi && mx.ok
 | .fieldAddr _ x=>x.ok
 | .field _ _ _ x=>x.ok
 | .ixAddr _ x i=>x.ok && i.ok
 | .ixStr x i=>x.ok && i.ok
 | .extract _ x=>x.ok
 | .lenStr x=>x.ok
 | .lenSl x=>x.ok
 | .maxi _ x y=>x.ok && y.ok
 | .max3 _ x y z=>x.ok && y.ok && z.ok
 | .ixAddrArr _ _ x i=>x.ok && i.ok
 | .ixArr _ _ _ x i=>x.ok && i.ok
 | .lenArr _ x=>x.ok
 | .appZ _ z s x=>z.all LV.scal && s.ok && x.ok
 | .appG _ s x=>s.ok && x.ok
 | .copy _ d x=>d.ok && x.ok
 | .clear _ z x=>z.all LV.scal && x.ok
 | .mkMap0=>true
 | .mkMap1 x=>x.ok
 | .lookup _ z _ x i=>z.cst && x.ok && i.ok
 | .mapUpd _ m k v=>m.ok && k.ok && v.ok
 | .lenMap x=>x.ok
 | .slArr _ _ x lo hi=>x.ok && zhr lo && zhr hi
 | .callV f args=>f.ok && args.all Lx.ok
def z4m (P:Program) (c:Cx) (G:z03) (K:LV→z03→Prop):OR→Prop
 | .no=>False
 | .val v1 H'=>∃ c' v G',c'.H=H'∧HSim c' G'∧Step c G c' G'∧AR c' v v1∧K v G'
 | .call t1 args1=>∃ t args,TgtR c t t1∧ARs c args args1∧z0k P t args G K
section res
variable {P : Program} {c : Cx} {G : z03} {K : LV → z03 → Prop}
theorem z4m.same (hs:HSim c G) {v:LV} {a:AV} (h:AR c v a) (k:K v G):z4m P c G K (.val a c.H):=⟨c,v,G,rfl,hs,.refl c G,h,k⟩
theorem z4m.ret (hs:HSim c G) {r:Option AV} (h:VRes c (fun v=>K v G) r):z4m P c G K (ret1 c.H r):=by
 obtain⟨v,a,rfl,h1,h2⟩:=h
 exact .same hs h1 h2
theorem zci (c:Cx) (l':List AV) :
  ∃ H',newObj c.H l'=some (c.H.next,H')∧H'.next=c.H.next+1∧(∀ o,o < c.H.next→H'.get o=c.H.get o)∧H'.get c.H.next=some (.cells (z0g l' 0 .e) l'.length 0 false) :=
 ⟨_,rfl,rfl,fun _ ho=>Heap.get_push_ne _ _ ho,Heap.get_push_same _ _⟩
theorem zii (hs:HSim c G) {l:List LV} {l':List AV} (h:ARs c l l') (k:K (.ptr G.length 0) (G++[.cells l 0])):z4m P c G K (z47 c.H l'):=by
 obtain⟨H',h1,h2,h3,h4⟩:=zci c l'
 unfold z47
 rw[h1]
 have hle:CxLe c ⟨c.hd++[(0,.ptr c.H.next 0 0)],c.Fz,H'⟩:=⟨fun p k x e=>⟨k,x,by rw[List.getElem?_append_left (List.getElem?_eq_some_iff.1 e).1]; exact e,Nat.le_refl _,fun _=>rfl,fun _=>rfl⟩,fun o ho=>⟨ho,h3 o (hs.fz o ho)⟩⟩
 obtain⟨q1,q2,_⟩:=hs.push (H':=H') (x:=.ptr c.H.next 0 0) (ob:=.cells l 0) (by omega) h3 (fun o e=>by cases e; omega)
  ⟨rfl,c.H.next,_,l',rfl,by rw[h.length]; exact h4,by rw[h.length]; exact z62 l',h.mono hle⟩
 exact⟨_,.ptr G.length 0,_,rfl,q1,q2,.ptr (by rw[←hs.len]; exact List.getElem?_concat_length),k⟩
theorem z4q (hs:HSim c G) {l:List LV} {l':List AV} {len esz:Nat} {room:Option Nat} (h:ARs c l l') (hl:l.length=len * esz) (hr:∀ r,room=some r→r=len) (k:K (.dy G.length 0) (G++[.dyn l len esz 0 0])) :
  z4m P c G K (match newObj c.H l' with
   | some (o,H')=>.val (.sl o 0 0 len esz room) H'
   | none=>.no):=by
 obtain⟨H',h1,h2,h3,h4⟩:=zci c l'
 rw[h1]
 have hle:CxLe c ⟨c.hd++[(0,.sl c.H.next 0 0 len esz room)],c.Fz,H'⟩:=⟨fun p k x e=>⟨k,x,by rw[List.getElem?_append_left (List.getElem?_eq_some_iff.1 e).1]; exact e,Nat.le_refl _,fun _=>rfl,fun _=>rfl⟩,fun o ho=>⟨ho,h3 o (hs.fz o ho)⟩⟩
 have hll:l'.length=len * esz:=by rw[←h.length]; exact hl
 obtain⟨q1,q2,_⟩:=hs.push (H':=H') (x:=.sl c.H.next 0 0 len esz room) (ob:=.dyn l len esz 0 0) (by omega) h3 (fun o e=>by cases e; omega)
  ⟨rfl,hl,.inr ⟨c.H.next,0,room,_,l'.length,l',rfl,h4,by omega,by rw[←hll]; exact z62 l',h.mono hle,fun r e=>by rw[hr r e]; exact⟨hll,Nat.le_refl _⟩,fun _=>hll⟩⟩
 exact⟨_,.dy G.length 0,_,rfl,q1,q2,.dy (h:=.sl c.H.next 0 0 len esz room) (by rw[←hs.len]; exact List.getElem?_concat_length) (Nat.le_refl _) (fun _=>rfl) rfl,k⟩
theorem zjp (hs:HSim c G) {p o st:Nat} {l:List LV} (hg:G[p]?=some (.cells l st)) (e:c.hd[p]?=some (0,.ptr o 0 0)) :
  ∃ t l',c.H.get o=some (.cells t l.length 0 false)∧z15 t 0 l.length=some l'∧ARs c l l':=by
 obtain⟨_,o',t,l',he,r2,r3,r4⟩:=hs.obj p _ _ _ hg e
 injection he with he
 subst he
 exact⟨t,l',r2,r3,r4⟩
theorem z9w (hs:HSim c G) {p k o v len len' esz esz' ver st:Nat} {room:Option Nat} {l:List LV} (hg:G[p]?=some (.dyn l len esz ver st)) (e:c.hd[p]?=some (k,.sl o v 0 len' esz' room)) :
  k=ver∧l.length=len * esz∧len'=len∧esz'=esz∧∃ t clen l',c.H.get o=some (.cells t clen v false)∧len * esz≤clen∧z15 t 0 (len * esz)=some l'∧ARs c l l' ∧
   (∀ r,room=some r→clen=r * esz∧len≤r)∧(room=none→clen=len * esz):=by
 obtain⟨r0,r1,r2⟩:=hs.obj p _ _ _ hg e
 rcases r2 with ⟨r2,_⟩ | ⟨o',v',room',t,clen,l',he,r3,r4,r5,r6,r7,r8⟩
 ·cases r2
 ·injection he with e1 e2 e3 e4 e5 e6
  subst e1 e2 e4 e5 e6
  exact⟨r0,r1,rfl,rfl,t,clen,l',r3,r4,r5,r6,r7,r8⟩
theorem zjv (hs:HSim c G) {x:LV} {a:AV} {n:Nat} {K:List LV→Prop} (hx:AR c x a) (h:zcg G x n K):∃ o v i l' l,a=.ptr o v i∧z1n c.H o v i n=some l'∧ARs c l l'∧K l:=by
 unfold zcg at h
 split at h
 ·rename_i p i
  split at h
  ·rename_i l st hg
   obtain⟨h1,h2⟩:=h
   cases hx with
   | @ptr _ _ o e =>
    obtain⟨t,l',r2,r3,r4⟩:=zjp hs hg e
    exact⟨o,0,i,_,_,rfl,z1m r2 r3 (Nat.le_refl _) h1,(r4.drop i).take n,h2⟩
  ·exact h.elim
 ·rename_i p k i
  split at h
  ·rename_i l len esz ver st hg
   obtain⟨hk0,h1,h2⟩:=h
   cases hx with
   | @dptr _ _ _ k' o v j hh e hk ha =>
    have hkv:=(hs.obj p _ _ _ hg e).1
    obtain⟨hj,len',esz',room',hhe⟩:=ha (by omega)
    subst hhe hj
    obtain⟨_,r1,_,_,t,clen,l',r3,r4,r5,r6,_⟩:=z9w hs hg e
    exact⟨o,v,j,_,_,rfl,z1m r3 r5 r4 (by omega),(r6.drop j).take n,h2⟩
  ·exact h.elim
 ·rename_i l i
  obtain⟨h1,h2⟩:=h
  cases hx with
  | cptr hf hr hl=>exact⟨_,_,_,_,_,rfl,zj3 hr h1,(hl.drop i).take n,h2⟩
 ·exact h.elim
theorem zpi (hs:HSim c G) {x:LV} {a:AV} {K:LV→Prop} (hx:AR c x a) (h:zco G x K):∃ o v i w b,a=.ptr o v i∧z1n c.H o v i 1=some [b]∧AR c w b∧K w:=by
 have one:∀ {l:List LV} {i:Nat} {v:LV},l[i]?=some v→i+1≤l.length∧(l.drop i).take 1=[v]:=fun {l i v} e=>by
  obtain⟨h1,h2⟩:=List.getElem?_eq_some_iff.1 e
  refine⟨h1,?_⟩
  rw[List.drop_eq_getElem_cons h1,h2]
  simp
 have key:zcg G x 1 (fun l=>∃ v,l=[v]∧K v):=by
  unfold zco at h
  unfold zcg
  split at h
  ·split at h
   ·obtain⟨v,h1,h2⟩:=h
    exact⟨(one h1).1,v,(one h1).2,h2⟩
   ·exact h.elim
  ·split at h
   ·obtain⟨h0,v,h1,h2⟩:=h
    exact⟨h0,(one h1).1,v,(one h1).2,h2⟩
   ·exact h.elim
  ·obtain⟨v,h1,h2⟩:=h
   exact⟨(one h1).1,v,(one h1).2,h2⟩
  ·exact h.elim
 obtain⟨o,v,i,l',l,q1,q2,q3,w,rfl,q4⟩:=zjv hs hx key
 cases q3 with
 | cons e es=>cases es; exact⟨o,v,i,w,_,q1,q2,e,q4⟩
theorem zj0 {H:Heap} {o v i N clen:Nat} {t:Tr AV} {l r:List AV} (hg:H.get o=some (.cells t clen v false)) (_:z15 t 0 N=some l) (hN:N≤clen) (hle:i+r.length≤N) :
  z3h H o v i r=some (H.put o (.cells (z0g r i t) clen v false)):=by
 unfold z3h
 rw[hg]
 have hb:Nat.ble (Nat.add i r.length) clen=true:=Nat.ble_eq_true_of_le (by show i+r.length≤clen; omega)
 simp only[Nat.beq_refl,hb]
theorem zpb {α:Type}:∀ {l:List α} {p:Nat} {a:α},l[p]?=some a→l.set p a=l
 | [],_,_,h=>by simp at h
 | x::l,0,a,h=>by simp at h; subst h; rfl
 | x::l,p+1,a,h=>by simp at h; simp[zpb h]
theorem za6 (hs:HSim c G) {x:LV} {a:AV} {l:List LV} {l':List AV} {K:z03→Prop} (hx:AR c x a) (hl:ARs c l l') (h:z4s G x l K) :
  ∃ o v i H' c' G',a=.ptr o v i∧z3h c.H o v i l'=some H'∧c'.H=H'∧HSim c' G'∧Step c G c' G'∧K G':=by
 have hlen:=hl.length
 unfold z4s at h
 split at h
 ·rename_i p i
  split at h
  ·rename_i l0 st hg
   obtain⟨h1,h2⟩:=h
   cases hx with
   | @ptr _ _ o e =>
    obtain⟨t,l0',r2,r3,r4⟩:=zjp hs hg e
    have hw:=zj0 (i:=i) (r:=l') r2 r3 (Nat.le_refl _) (by omega)
    obtain⟨q1,q2,_⟩:=hs.upd (k':=0) (x':=.ptr o 0 0) (ob':=.cells (z0w l0 i l) (st+1)) (H':=c.H.put o (.cells (z0g l' i t) l0.length 0 false)) hg rfl e (Nat.le_refl _)
     (fun o' _ hne=>Heap.get_put_ne _ _ (fun q=>hne (by rw[q]; rfl))) (fun o' e'=>by cases e'; exact⟨.inl rfl,hs.lt o ⟨p,_,_,_,hg,rfl,e,rfl⟩⟩) (Nat.le_refl _) (fun _=>rfl) (fun _=>rfl) (.inl (Nat.lt_succ_self _))
     (fun hle=>⟨rfl,o,_,zft l0' i l',rfl,by rw[z9r h1]; exact Heap.get_put_same _ _ _,by rw[z9r h1]; exact zei r3 (by omega),(r4.lay hl i).mono hle⟩)
    exact⟨o,0,i,_,_,_,rfl,hw,rfl,q1,q2,h2⟩
  ·exact h.elim
 ·rename_i p k i
  split at h
  ·rename_i l0 len esz ver st hg
   obtain⟨hk0,h1,h2⟩:=h
   cases hx with
   | @dptr _ _ _ k' o v j hh e hk ha =>
    have hkv:=(hs.obj p _ _ _ hg e).1
    obtain⟨hj,len',esz',room,hhe⟩:=ha (by omega)
    subst hhe hj
    obtain⟨hk2,r1,hl2,he2,t,clen,l0',r3,r4,r5,r6,r7,r8⟩:=z9w hs hg e
    subst hl2 he2
    have hw:=zj0 (i:=j) (r:=l') r3 r5 r4 (by omega)
    obtain⟨q1,q2,_⟩:=hs.upd (k':=k') (x':=.sl o v 0 len' esz' room) (ob':=.dyn (z0w l0 j l) len' esz' ver (st+1)) (H':=c.H.put o (.cells (z0g l' j t) clen v false)) hg rfl e (Nat.le_refl _)
     (fun o' _ hne=>Heap.get_put_ne _ _ (fun q=>hne (by rw[q]; rfl))) (fun o' e'=>by cases e'; exact⟨.inl rfl,hs.lt _ ⟨p,_,_,_,hg,rfl,e,rfl⟩⟩) (Nat.le_refl _) (fun _=>rfl) (fun _=>rfl) (.inl (Nat.lt_succ_self _))
     (fun hle=>⟨hk2,by rw[z9r h1]; exact r1,.inr ⟨o,v,room,_,clen,zft l0' j l',rfl,Heap.get_put_same _ _ _,r4,zei r5 (by omega),(r6.lay hl j).mono hle,r7,r8⟩⟩)
    exact⟨o,v,j,_,_,_,rfl,hw,rfl,q1,q2,h2⟩
  ·exact h.elim
 ·exact h.elim
theorem lenL_ok (hs:HSim c G) {x:LV} {a:AV} {K:Nat→Prop} (hx:AR c x a) (h:lenL G x K):∃ n,K n∧(a=.nilSl∧n=0∨a=.emp∧n=0∨∃ o v i esz room,a=.sl o v i n esz room):=by
 unfold lenL at h
 split at h
 ·cases hx; exact⟨0,h,.inl ⟨rfl,rfl⟩⟩
 ·rename_i p k
  split at h
  ·rename_i l len esz ver st hg
   obtain⟨hk0,h⟩:=h
   cases hx with
   | @dy _ _ k' hh _ e hk ha _ =>
    obtain⟨r0,r1,r2⟩:=hs.obj p _ _ _ hg e
    have hha:=ha (by omega)
    rcases r2 with ⟨r2,r3⟩ | ⟨o,v,room,t,clen,l',r2,_⟩
    ·exact⟨len,h,.inl ⟨hha.trans r2,r3⟩⟩
    ·exact⟨len,h,.inr (.inr ⟨_,_,_,_,_,hha.trans r2⟩)⟩
  ·exact h.elim
 ·rename_i p k lo len
  split at h
  ·rename_i l len0 esz ver st hg
   obtain⟨hk0,h⟩:=h
   cases hx with
   | @vw _ _ _ _ k' hh _ e hk ha _ _ =>
    obtain⟨r0,r1,r2⟩:=hs.obj p _ _ _ hg e
    rcases ha (by omega) with ⟨r3,r4 | r4⟩ | ⟨o,v,len',esz',room,room',_,r4,_⟩
    ·exact⟨len,h,.inl ⟨r4,r3⟩⟩
    ·exact⟨len,h,.inr (.inl ⟨r4.1,r3⟩)⟩
    ·exact⟨len,h,.inr (.inr ⟨_,_,_,_,_,r4⟩)⟩
  ·exact h.elim
 ·cases hx with
  | lst=>exact⟨_,h,.inr (.inr ⟨_,_,_,_,_,rfl⟩)⟩
  | lstNil=>exact⟨0,h,.inl ⟨rfl,rfl⟩⟩
  | lstEmp=>exact⟨0,h,.inr (.inl ⟨rfl,rfl⟩)⟩
 ·exact h.elim
theorem znk (l:List UInt8) (c:Cx):ARs c (l.map LV.b) ((z3k l.length (z1g l)).map fun (b:Nat)=>AV.int .u8 (Int.ofNat b)):=by
 rw[unpack_pack]
 induction l with
 | nil=>exact .nil
 | cons b l ih=>exact .cons (.b b) ih
theorem zt8 (hs:HSim c G) {x:LV} {a:AV} {size:Nat} {K:Nat→List LV→Prop} (hx:AR c x a) (h:rowL G size x K):∃ n l l',zg9 c.H size a=some (n,l')∧ARs c l l'∧l.length=n * size∧K n l:=by
 have hsz:Nat.beq size size=true:=Nat.beq_refl _
 unfold rowL at h
 split at h
 ·cases hx; exact⟨0,[],[],rfl,.nil,by simp,h⟩
 ·rename_i p k
  split at h
  ·rename_i l len esz ver st hg
   obtain⟨hk0,rfl,h⟩:=h
   cases hx with
   | @dy _ _ k' hh _ e hk ha _ =>
    obtain⟨r0,r1,r2⟩:=hs.obj p _ _ _ hg e
    have hha:=ha (by omega)
    rcases r2 with ⟨r2,r3⟩ | ⟨o,v,room,t,clen,l',r2,r3,r4,r5,r6,_⟩
    ·subst r3
     have:l=[]:=List.eq_nil_of_length_eq_zero (by simpa using r1)
     subst this
     exact⟨0,[],[],by rw[hha,r2]; rfl,.nil,by simp,h⟩
    ·refine⟨len,l,l',?_,r6,r1,h⟩
     have hr:=z1m (i:=0) (n:=len * esz) r3 r5 r4 (by omega)
     have hl':l'.length=len * esz:=by rw[←r6.length]; exact r1
     rw[hha,r2]
     simp only[zg9,hsz]
     rw[show Nat.mul len esz=len * esz from rfl,hr]
     simp[List.take_of_length_le,hl']
  ·exact h.elim
 ·rename_i p k lo len
  split at h
  ·rename_i l len0 esz ver st hg
   obtain⟨hk0,rfl,h1,h⟩:=h
   cases hx with
   | @vw _ _ _ _ k' hh _ e hk ha _ _ =>
    have hkv:=(hs.obj p _ _ _ hg e).1
    rcases ha (by omega) with ⟨r3,r4⟩ | ⟨o,v,len',esz',room,room',r3,r4,_⟩
    ·subst r3
     refine⟨0,_,[],?_,by simpa using (ARs.nil (c:=c)),by simp,h⟩
     rcases r4 with rfl | ⟨rfl,_⟩ <;> rfl
    ·subst r3
     obtain⟨_,q1,q2,q3,t,clen,l',q4,q5,q6,q7,_⟩:=z9w hs hg e
     subst q2 q3
     have hr:=z1m (i:=lo * esz') (n:=len * esz') q4 q6 q5 (by omega)
     refine⟨len,_,_,?_,(q7.drop (lo * esz')).take (len * esz'),by simp; omega,h⟩
     rw[r4]
     simp only[zg9,hsz]
     rw[show Nat.mul len esz'=len * esz' from rfl,hr]
  ·exact h.elim
 ·rename_i l len esz
  obtain⟨rfl,h⟩:=h
  cases hx with
  | lst hf hrm hlen hr hl =>
   refine⟨len,l,_,?_,hl,hlen,h⟩
   simp only[zg9,hsz]
   rw[show Nat.mul len esz=len * esz from rfl,hr]
  | lstNil=>exact⟨0,[],[],rfl,.nil,by simp,h⟩
  | lstEmp=>exact⟨0,[],[],rfl,.nil,by simp,h⟩
 ·rename_i l
  obtain⟨rfl,h⟩:=h
  cases hx
  refine⟨l.length,_,_,?_,znk l c,by simp,h⟩
  simp[zg9]
 ·exact h.elim
end res
end Go.Sv
namespace Go.Sv
section res
variable {P : Program} {c : Cx} {G : z03} {K : LV → z03 → Prop}
theorem zrf (hs:HSim c G) {size:Nat} (k:K (.dy G.length 0) (G++[.dyn [] 0 size 0 0])):z4m P c G K (.val .nilSl c.H):=by
 obtain⟨q1,q2,_⟩:=hs.push (H':=c.H) (x:=.nilSl) (ob:=.dyn [] 0 size 0 0) (Nat.le_refl _) (fun _ _=>rfl) (fun o e=>by cases e) ⟨rfl,by simp,.inl ⟨rfl,rfl⟩⟩
 exact⟨⟨c.hd++[(0,.nilSl)],c.Fz,c.H⟩,.dy G.length 0,_,rfl,q1,q2,.dy (h:=.nilSl) (by rw[←hs.len]; exact List.getElem?_concat_length) (Nat.le_refl _) (fun _=>rfl) rfl,k⟩
theorem zpt (hs:HSim c G) {p k:Nat} {a:AV} {size n:Nat} {new:List LV} {new':List AV} (ha:AR c (.dy p k) a) (hn:ARs c new new') (hl:new.length=n * size) (h:appL G size (.dy p k) n new K):z4m P c G K (z3x c.H size a n new'):=by
 have hnl:=hn.length
 unfold appL at h
 dsimp only at h
 split at h
 ·rename_i l len esz ver st hg
  obtain⟨hk0,⟨rfl,hpos⟩,hlim,h⟩:=h
  have hpg:p < c.hd.length:=by rw[hs.len]; exact (List.getElem?_eq_some_iff.1 hg).1
  cases ha with
  | @dy _ _ k' hh _ e hk haa hsl =>
   obtain⟨r0,r1,r2⟩:=hs.obj p _ _ _ hg e
   have hha:=haa (by omega)
   have fin:∀ {H':Heap} {x':AV},c.H.next≤H'.next→(∀ o,o < c.H.next→idOf hh≠some o→H'.get o=c.H.get o)→(∀ o,idOf x'=some o→(idOf hh=some o∨c.H.next≤o)∧o < H'.next)→zju x'=true→fixd hh=false →
     (CxLe c ⟨c.hd.set p (k'+1,x'),c.Fz,H'⟩→ObR ⟨c.hd.set p (k'+1,x'),c.Fz,H'⟩ (k'+1) x' (.dyn (l++new) (len+n) esz (ver+1) (st+1)))→z4m P c G K (.val x' H'):=by
    intro H' x' h1 h2 h3 h4 h5 h6
    obtain⟨q1,q2,_⟩:=hs.upd (k':=k'+1) (x':=x') (ob':=.dyn (l++new) (len+n) esz (ver+1) (st+1)) (H':=H') hg rfl e h1 h2 h3 (Nat.le_succ _) (fun q=>by omega) (fun q=>by rw[h5] at q; cases q) (.inl (Nat.lt_succ_self _)) h6
    exact⟨_,.dy p (ver+1),_,rfl,q1,q2,.dy (k':=k'+1) (h:=x') (by dsimp only; rw[List.getElem?_set_self hpg]) (by omega) (fun _=>rfl) h4,h⟩
   have hcnt:(l++new).length=(len+n) * esz:=by rw[List.length_append,r1,hl,Nat.add_mul]
   unfold z3x
   cases hb:Nat.beq n 0 with
   | true =>
    have hn0:=Nat.eq_of_beq_eq_true hb
    subst hn0
    have hnew:new=[]:=List.eq_nil_of_length_eq_zero (by simpa using hl)
    subst hnew
    have hfix:fixd hh=false:=by
     rcases r2 with ⟨r2,_⟩ | ⟨o,v,room,t,clen,l',r2,_⟩ <;> rw[r2] <;> rfl
    have hsh:zju hh=true:=by rw[←hha]; exact hsl
    have key:z4m P c G K (.val hh c.H):=by
     refine fin (Nat.le_refl _) (fun _ _ _=>rfl) (fun o e'=>⟨.inl e',hs.lt o ⟨p,_,_,_,hg,rfl,e,e'⟩⟩) hsh hfix (fun hle=>⟨by omega,hcnt,?_⟩)
     simp only[List.append_nil,Nat.add_zero]
     rcases r2 with ⟨r2,r3⟩ | ⟨o,v,room,t,clen,l',r2,r3,r4,r5,r6,r7,r8⟩
     ·exact .inl ⟨r2,r3⟩
     ·exact .inr ⟨o,v,room,t,clen,l',r2,r3,r4,r5,r6.mono hle,r7,r8⟩
    rw[hha]
    rcases r2 with ⟨r2,r3⟩ | ⟨o,v,room,t,clen,l',r2,r3,r4,r5,r6,r7,r8⟩
    ·rw[r2] at key ⊢; exact key
    ·rw[r2] at key ⊢; exact key
   | false =>
    have hn0:n≠0:=fun q=>by rw[q] at hb; cases hb
    rw[hha]
    rcases r2 with ⟨r2,r3⟩ | ⟨o,v,room,t,clen,l',r2,r3,r4,r5,r6,r7,r8⟩
    ·-- nil so far
     subst r3
     have hlnil:l=[]:=List.eq_nil_of_length_eq_zero (by simpa using r1)
     subst hlnil
     rw[r2]
     dsimp only[zem]
     obtain⟨H',h1,h2,h3,h4⟩:=zci c new'
     rw[h1]
     dsimp only
     refine fin (by omega) (fun o ho _=>h3 o ho) (fun o e'=>by cases e'; exact⟨.inr (Nat.le_refl _),by omega⟩) rfl (by rw[r2]; rfl) (fun hle=>⟨by omega,hcnt,.inr ⟨c.H.next,0,none,_,new'.length,new',?_,h4,?_,?_,hn.mono hle,fun r q=>(by cases q),fun _=>?_⟩⟩)
     ·simp
     ·rw[Nat.zero_add]; omega
     ·rw[Nat.zero_add,←hl,hnl]; exact z62 new'
     ·rw[Nat.zero_add]; omega
    ·have hlt:o < c.H.next:=hs.lt o ⟨p,_,_,_,hg,rfl,e,by rw[r2]; rfl⟩
     have hl':l'.length=len * esz:=by rw[←r6.length]; exact r1
     rw[r2]
     have hbe:(Nat.beq esz esz && Nat.ble len lim)=true:=by rw[Nat.beq_refl,show Nat.ble len lim=true from Nat.ble_eq_true_of_le hlim]; rfl
     dsimp only
     rw[hbe]
     dsimp only
     have hid:idOf hh=some o:=by rw[r2]; rfl
     have hfx:fixd hh=false:=by rw[r2]; rfl
     have happ:z15 (z0g new' (len * esz) t) 0 ((len+n) * esz)=some (l'++new'):=by
      have:=zmu (r:=new') r5
      rwa [show len * esz+new'.length=(len+n) * esz from by rw[←hnl,hl,Nat.add_mul]] at this
     cases room with
     | some r =>
      obtain⟨hcl,hlr⟩:=r7 r rfl
      dsimp only
      cases hfit:Nat.ble (Nat.add len n) r with
      | true =>
       have hfit':len+n≤r:=Nat.le_of_ble_eq_true hfit
       have hm:(len+n) * esz≤r * esz:=Nat.mul_le_mul_right _ hfit'
       have hm2:(len+n) * esz=len * esz+n * esz:=Nat.add_mul _ _ _
       have hw:z3h c.H o v (Nat.add 0 (Nat.mul len esz)) new'=some (c.H.put o (.cells (z0g new' (len * esz) t) clen v false)):=by
        unfold z3h
        rw[r3]
        have e1:Nat.add 0 (Nat.mul len esz)=len * esz:=Nat.zero_add _
        have hble:Nat.ble (Nat.add (len * esz) new'.length) clen=true:=Nat.ble_eq_true_of_le (by show len * esz+new'.length≤clen; omega)
        rw[e1]
        simp only[Nat.beq_refl,hble]
       dsimp only
       rw[hw]
       dsimp only
       refine fin (by exact Nat.le_refl _) (fun o' _ hne=>Heap.get_put_ne _ _ (fun q=>hne (by rw[q]; exact hid))) (fun o' e'=>by cases e'; exact⟨.inl hid,hlt⟩) rfl hfx (fun hle=>⟨by omega,hcnt,.inr ⟨o,v,some r,_,clen,_,rfl,Heap.get_put_same _ _ _,by omega,happ,(r6.append hn).mono hle,fun r' q=>by cases q; exact⟨hcl,hfit'⟩,fun q=>by cases q⟩⟩)
      | false =>
       have hr:=z1m (i:=0) (n:=len * esz) r3 r5 r4 (by omega)
       dsimp only
       rw[show Nat.mul len esz=len * esz from rfl,hr]
       dsimp only[zem]
       obtain⟨H',h1,h2,h3,h4⟩:=zci c ((l'.drop 0).take (len * esz)++new')
       rw[h1]
       dsimp only
       have heq:(l'.drop 0).take (len * esz)=l':=by rw[List.drop_zero,List.take_of_length_le (by omega)]
       rw[heq] at h4
       have hsz:(l'++new').length=(len+n) * esz:=by rw[List.length_append,hl',←hnl,hl,Nat.add_mul]
       refine fin (by omega) (fun o' ho' _=>h3 o' ho') (fun o' e'=>by cases e'; exact⟨.inr (Nat.le_refl _),by omega⟩) rfl hfx (fun hle=>⟨by omega,hcnt,.inr ⟨c.H.next,0,none,_,_,l'++new',rfl,h4,by omega,?_,(r6.append hn).mono hle,fun r' q=>(by cases q),fun _=>hsz⟩⟩)
       rw[←hsz]; exact z62 _
     | none =>
      have hcl:=r8 rfl
      dsimp only
      rw[r3]
      dsimp only
      have hm2:(len+n) * esz=len * esz+n * esz:=Nat.add_mul _ _ _
      have hnpos:0 < n * esz:=Nat.mul_pos (by omega) hpos
      have hnf:Nat.ble (Nat.add 0 (Nat.mul (Nat.add len n) esz)) clen=false:=by
       cases hq:Nat.ble (Nat.add 0 (Nat.mul (Nat.add len n) esz)) clen with
       | false=>rfl
       | true =>
        have:0+(len+n) * esz≤clen:=Nat.le_of_ble_eq_true hq
        omega
      have htip:Nat.beq (Nat.mul len esz) clen=true:=by rw[hcl]; exact Nat.beq_refl _
      rw[Nat.beq_refl,hnf,htip,hcl]
      dsimp only
      have hsz:Nat.add (len * esz) new'.length=(len+n) * esz:=by show len * esz+new'.length=_; rw[←hnl,hl,hm2]
      refine fin (by exact Nat.le_refl _) (fun o' _ hne=>Heap.get_put_ne _ _ (fun q=>hne (by rw[q]; exact hid))) (fun o' e'=>by cases e'; exact⟨.inl hid,hlt⟩) rfl hfx (fun hle=>⟨by omega,hcnt,.inr ⟨o,v+1,none,_,_,_,rfl,Heap.get_put_same _ _ _,by rw[hsz]; exact Nat.le_refl _,happ,(r6.append hn).mono hle,fun r' q=>(by cases q),fun _=>hsz⟩⟩)
 ·exact h.elim
theorem zvc (hs:HSim c G) {s:LV} {a:AV} {size n:Nat} {new:List LV} {new':List AV} (ha:AR c s a) (hn:ARs c new new') (hl:new.length=n * size) (h:appL G size s n new K):z4m P c G K (z3x c.H size a n new'):=by
 have hnl:=hn.length
 unfold appL at h
 split at h
 ·-- nil
  cases ha
  unfold z3x
  cases hb:Nat.beq n 0 with
  | true =>
   have:=Nat.eq_of_beq_eq_true hb
   subst this
   have:new=[]:=List.eq_nil_of_length_eq_zero (by simpa using hl)
   subst this
   exact zrf hs h
  | false =>
   dsimp only[zem]
   exact z4q hs hn hl (fun r e=>by cases e) h
 ·rename_i p k
  exact zpt hs ha hn hl (by unfold appL; exact h)
 ·rename_i p k lo len
  split at h
  ·rename_i l len0 esz ver st hg
   obtain⟨hk0,⟨rfl,rfl,hn0⟩,hlim,h⟩:=h
   have hbn:Nat.beq n 0=false:=by
    cases hb:Nat.beq n 0 with
    | false=>rfl
    | true=>have:=Nat.eq_of_beq_eq_true hb; omega
   cases ha with
   | @vw _ _ _ _ k' hh _ e hk haa hsl hz =>
    split at h
    case isFalse hfit =>
     obtain⟨hl0,hpos,h1,h2⟩:=h
     subst hl0
     have hkv:=(hs.obj p _ _ _ hg e).1
     have hz':=hz (by omega) rfl
     rcases haa (by omega) with ⟨r3,r4⟩ | ⟨o,v,len',esz',room,room',r3,r4,r9⟩
     ·subst r3
      rcases r4 with rfl | ⟨_,r5⟩
      ·have hl0:l=[]:=List.eq_nil_of_length_eq_zero (by have:=(hs.obj p _ _ _ hg e).2.1; simpa using this)
       subst hl0
       unfold z3x
       rw[hbn]
       dsimp only[zem]
       refine z4q hs hn hl (fun r e=>by cases e) ?_
       simpa using h2
      ·exact absurd rfl r5
     ·have e2:=e
      rw[r3] at e2
      obtain⟨_,w1,w2,w3,t,clen,l',w4,w5,w6,w7,_⟩:=z9w hs hg e2
      subst w2 w3
      rw[r3,r4] at hz'
      dsimp only[tied] at hz'
      by_cases hrr:room'=room
      ·refine zpt hs (p:=p) (k:=k) (.dy e hk (fun _=>by rw[r4,r3,hrr,Nat.zero_mul]) hsl) hn hl ?_
       unfold appL
       dsimp only
       rw[hg]
       exact⟨hk0,⟨rfl,hpos⟩,hlim,h1⟩
      ·rcases hz' with hz' | ⟨r,rfl,hr⟩
       ·exact absurd hz' hrr
       have hbe:(Nat.beq esz' esz' && Nat.ble len' lim)=true:=by rw[Nat.beq_refl,show Nat.ble len' lim=true from Nat.ble_eq_true_of_le hlim]; rfl
       have hnf:Nat.ble (Nat.add len' n) r=false:=by
        cases hq:Nat.ble (Nat.add len' n) r with
        | false=>rfl
        | true=>have:len'+n≤r:=Nat.le_of_ble_eq_true hq; omega
       rw[r4]
       unfold z3x
       rw[hbn]
       dsimp only
       rw[hbe]
       dsimp only
       rw[hnf]
       dsimp only
       have hrd:=z1m (i:=0) (n:=len' * esz') w4 w6 w5 (by omega)
       rw[show Nat.mul len' esz'=len' * esz' from rfl,show 0 * esz'=0 from Nat.zero_mul _,hrd]
       dsimp only[zem]
       have hadd:=Nat.add_mul len' n esz'
       have htk:l.take (len' * esz')=l:=List.take_of_length_le (by omega)
       refine z4q hs ((w7.take _).append hn) (by rw[List.length_append,List.length_take,hl]; show min (len' * esz') l.length+n * esz'=(len'+n) * esz'; omega) (fun r e=>by cases e) ?_
       rw[htk]; exact h2
    case isTrue hfit =>
     obtain⟨h1,h2⟩:=h
     have hkv:=(hs.obj p _ _ _ hg e).1
     have hadd:(len+n) * esz=len * esz+n * esz:=Nat.add_mul _ _ _
     rcases haa (by omega) with ⟨r3,r4⟩ | ⟨o,v,len',esz',room,room',r3,r4,r9⟩
     ·subst r3
      rcases r4 with rfl | ⟨_,r5⟩
      ·unfold z3x
       rw[hbn]
       dsimp only[zem]
       refine z4q hs hn hl (fun r e=>by cases e) ?_
       simpa using h2
      ·exact absurd rfl r5
     ·have e2:=e
      rw[r3] at e2
      obtain⟨_,w1,w2,w3,t,clen,l',w4,w5,w6,w7,_⟩:=z9w hs hg e2
      subst w2 w3
      rw[r4]
      have hw:z4s G (.dptr p k (len * esz')) new (fun G'=>K (.vw p k 0 (len+n)) G'):=by
       unfold z4s
       dsimp only
       rw[hg]
       exact⟨hk0,by rw[hl,←hadd]; exact hfit,h1⟩
      obtain⟨o2,v2,i2,H',c',G',u1,u2,u3,u4,u5,u6⟩:=za6 hs (a:=.ptr o v (len * esz')) (.dptr e hk (fun _=>⟨rfl,_,esz',room,r3⟩)) hn hw
      cases u1
      have inpl:(∀ r,room'=some r→len+n≤r)→z4m P c G K (.val (.sl o v (0 * esz') (len+n) esz' room') H'):=fun hr=>by
       refine⟨c',.vw p k 0 (len+n),G',u3,u4,u5,AR.mono u5.le (.vw e hk (fun _=>.inr ⟨o,v,_,esz',room,room',r3,rfl,hr⟩) rfl (fun q=>by have:=hz q; rw[r4] at this; exact this)),u6⟩
      have hbe:(Nat.beq esz' esz' && Nat.ble len lim)=true:=by rw[Nat.beq_refl,show Nat.ble len lim=true from Nat.ble_eq_true_of_le hlim]; rfl
      have hix:Nat.add (0 * esz') (Nat.mul len esz')=len * esz':=by show 0 * esz'+len * esz'=_; omega
      have hle0:len * esz'≤len' * esz':=by rw[←w1]; omega
      unfold z3x
      rw[hbn]
      dsimp only
      rw[hbe]
      dsimp only
      cases room' with
      | some r =>
       dsimp only
       cases hb:Nat.ble (Nat.add len n) r with
       | true =>
        dsimp only
        rw[hix,u2]
        exact inpl (fun r' e'=>by cases e'; exact Nat.le_of_ble_eq_true hb)
       | false =>
        dsimp only
        have hr:=z1m (i:=0) (n:=len * esz') w4 w6 w5 (by omega)
        rw[show Nat.mul len esz'=len * esz' from rfl,show 0 * esz'=0 from Nat.zero_mul _,hr]
        dsimp only[zem]
        refine z4q hs ((w7.take _).append hn) (by rw[List.length_append,List.length_take,hl]; show min (len * esz') l.length+n * esz'=(len+n) * esz'; omega) (fun r e=>by cases e) h2
      | none =>
       dsimp only
       rw[w4]
       dsimp only
       rw[Nat.beq_refl,hix]
       have hb:Nat.ble (Nat.add (0 * esz') (Nat.mul (Nat.add len n) esz')) clen=true:=Nat.ble_eq_true_of_le (by show 0 * esz'+(len+n) * esz'≤clen; omega)
       rw[hb]
       dsimp only
       rw[u2]
       exact inpl (fun r' e'=>by cases e')
  ·exact h.elim
 ·rename_i p k len
  split at h
  ·rename_i l len0 esz ver st hg
   obtain⟨hk0,⟨rfl,hn0⟩,hlim,hle,h⟩:=h
   have hbn:Nat.beq n 0=false:=by
    cases hb:Nat.beq n 0 with
    | false=>rfl
    | true=>have:=Nat.eq_of_beq_eq_true hb; omega
   cases ha with
   | @vf _ _ _ k' hh _ e hk haa hsl =>
    have hkv:=(hs.obj p _ _ _ hg e).1
    obtain⟨o,v,len',esz',room,r3,r4⟩:=haa (by omega)
    have e2:=e
    rw[r3] at e2
    obtain⟨_,w1,w2,w3,t,clen,l',w4,w5,w6,w7,_⟩:=z9w hs hg e2
    subst w2 w3
    have hbe:(Nat.beq esz' esz' && Nat.ble len lim)=true:=by rw[Nat.beq_refl,show Nat.ble len lim=true from Nat.ble_eq_true_of_le hlim]; rfl
    have hnf:Nat.ble (Nat.add len n) len=false:=by
     cases hq:Nat.ble (Nat.add len n) len with
     | false=>rfl
     | true=>have:len+n≤len:=Nat.le_of_ble_eq_true hq; omega
    rw[r4]
    unfold z3x
    rw[hbn]
    dsimp only
    rw[hbe]
    dsimp only
    rw[hnf]
    dsimp only
    have hrd:=z1m (i:=0) (n:=len * esz') w4 w6 w5 (by omega)
    rw[show Nat.mul len esz'=len * esz' from rfl,hrd]
    dsimp only[zem]
    have hadd:=Nat.add_mul len n esz'
    refine z4q hs ((w7.take _).append hn) (by rw[List.length_append,List.length_take,hl]; show min (len * esz') l.length+n * esz'=(len+n) * esz'; omega) (fun r e=>by cases e) h
  ·exact h.elim
 ·exact h.elim
end res
end Go.Sv
namespace Go.Sv
section res
variable {P : Program} {c : Cx} {G : z03} {K : LV → z03 → Prop}
theorem toA_scal {v:LV} {a:AV} (hs:v.scal=true) (h:AR c v a):a=toA v:=by
 cases v <;> first | (cases hs; done) | (cases h; rfl)
theorem toAs_scal:∀ {l:List LV} {r:List AV},l.all LV.scal=true→ARs c l r→r=toAs l
 | [],_,_,.nil=>rfl
 | v::l,_,h,.cons e es=>by
  simp only[List.all_cons,Bool.and_eq_true] at h
  rw[toAs,←toA_scal h.1 e,←toAs_scal h.2 es]
theorem binL_ok {op:BinOp} {g:Bool} {t:TypeId} {x y:LV} {a b:AV} {K:LV→Prop} (hx:AR c x a) (hy:AR c y b) (h:binL P op g t x y K):VRes c K (binA P op g t a b):=by
 unfold binL at h
 split at h
 ·cases hx; cases hy; exact uuL_ok h
 ·cases hx; cases hy; exact iiL_ok h
 ·cases hx; cases hy; exact bbL_ok h
 ·rename_i u v
  cases hx; cases hy
  cases op <;> try exact h.elim
  ·simp only[binA]; rw[h.1]; exact .mk (.bool _) h.2
  ·simp only[binA]; rw[h.1]; exact .mk (.bool _) h.2
 ·rename_i u s
  cases hx; cases hy
  cases op <;> try exact h.elim
  ·obtain⟨h1,h2⟩:=h
   obtain⟨n,rfl⟩:=Int.eq_ofNat_of_zero_le h1
   exact .mk (.u' (shl_u u n)) h2
  ·obtain⟨h1,h2⟩:=h
   obtain⟨n,rfl⟩:=Int.eq_ofNat_of_zero_le h1
   exact .mk (.u' (shr_u u n)) h2
 ·rename_i u s
  cases hx; cases hy
  cases op <;> try exact h.elim
  ·obtain⟨h1,h2,h3,h4⟩:=h
   rw[(zkg (s:=Int.ofNat s.toNat) h1 (Int.natCast_nonneg _) (by show (s.toNat:Int)≤64; omega)).1]
   exact .mk (.i' (z2o h3)) h4
  ·obtain⟨h1,h2,h4⟩:=h
   rw[(zkg (s:=Int.ofNat s.toNat) h1 (Int.natCast_nonneg _) (by show (s.toNat:Int)≤64; omega)).2]
   exact .mk (.i _) h4
 ·obtain⟨rfl,h⟩:=h
  cases hx; cases hy; exact kkL_ok h
 ·cases hx; cases hy; exact ssL_ok h
 ·cases hx; cases hy; exact zo1 (by cases op <;> rfl) h
 ·cases hx; cases hy
  have:∀ o v i,eqA P g t (.ptr o v i) .nilPtr=eqA P g t (.ptr 0 0 0) .nilPtr:=fun o v i=>by
   unfold eqA zir eqT eqT1
   dsimp only
   cases P.underlying t with
   | none=>rfl
   | some d=>cases d <;> rfl
  refine zo1 (r:=false) (by cases op <;> rfl) ?_
  cases op <;> simp only[nilL] at h ⊢ <;> (rw[this]; exact h)
 ·cases hx; cases hy; exact zo1 (by cases op <;> rfl) h
 ·cases hy
  obtain⟨h1,h2⟩:=h
  have key:eqA P g t .emp .nilSl=some false∧∀ o v i len esz room,eqA P g t (.sl o v i len esz room) .nilSl=some false:=by
   unfold eqA zir eqT eqT1 at h1 ⊢
   dsimp only at h1 ⊢
   cases hu:P.underlying t with
   | none=>rw[hu] at h1; cases h1
   | some d=>rw[hu] at h1; cases d <;> first | (cases h1; done) | exact⟨rfl,fun _ _ _ _ _ _=>rfl⟩
  have fin:∀ {a:AV} {b:Bool},eqA P g t a .nilSl=some b→(binA P op g t a .nilSl=match op with | .eql=>yesB (eqA P g t a .nilSl) | .neq=>notB (eqA P g t a .nilSl) | _=>none)→(match op with | .eql=>K (.bool b) | .neq=>K (.bool !b) | _=>False)→VRes c K (binA P op g t a .nilSl):=by
   intro a b h3 h4 h5
   rw[h4,h3]
   cases op <;> first | exact h5.elim | exact .mk (.bool _) h5
  cases hx with
  | lst hf hrm hlen hr hl =>
   refine fin (key.2 _ _ _ _ _ _) (by cases op <;> rfl) ?_
   cases op <;> first | exact h2.elim | exact h2.1
  | lstNil =>
   refine fin h1 (by cases op <;> rfl) ?_
   cases op <;> first | exact h2.elim | exact h2.2 rfl
  | lstEmp =>
   refine fin key.1 (by cases op <;> rfl) ?_
   cases op <;> first | exact h2.elim | exact h2.1
 ·cases hx with
  | agg h1=>cases hy with
   | agg h2 =>
    cases op <;> try exact h.elim
    ·obtain⟨b,s1,s2,e,k⟩:=h
     rw[toAs_scal s1 h1,toAs_scal s2 h2]
     simp only[binA]; rw[e]; exact .mk (.bool _) k
    ·obtain⟨b,s1,s2,e,k⟩:=h
     rw[toAs_scal s1 h1,toAs_scal s2 h2]
     simp only[binA]; rw[e]; exact .mk (.bool _) k
 ·exact h.elim
theorem unL_ok {op:UnOp} {x:LV} {a:AV} {K:LV→Prop} (hx:AR c x a) (h:unL op x K):VRes c K (unA op a):=by
 unfold unL at h
 simp only[z4n,ztt] at h
 split at h
 ·cases hx; exact .mk (.bool _) h
 ·cases hx
  refine .mk (.u' ?_) h
  rename_i u
  rw[z2r,UInt64.toNat_sub]
  show (0 - Int.ofNat u.toNat) % _=((2 ^ 64 - u.toNat+(0:UInt64).toNat) % 2 ^ 64:Nat)
  have:=u.toNat_lt
  simp only[Int.ofNat_eq_natCast,UInt64.toNat_zero]
  omega
 ·cases hx
  obtain⟨h1,h2⟩:=h
  refine .mk (.i' ?_) h2
  have e:∀ n:Int,Int.sub 0 n=-n:=fun n=>by show 0 - n=-n; omega
  rw[e]; exact z2o h1
 ·cases hx
  refine .mk (.u' ?_) h
  rename_i u
  have hu:=u.toNat_lt
  show IntKind.wrap .u64 (BitVec.ofInt 64 (IntKind.max .u64) ^^^ BitVec.ofInt 64 (Int.ofNat u.toNat)).toNat=_
  have e1:BitVec.ofInt 64 (IntKind.max .u64)=BitVec.allOnes 64:=by decide
  have e2:BitVec.ofInt 64 (Int.ofNat u.toNat)=u.toBitVec:=by
   apply BitVec.eq_of_toNat_eq
   simp
  rw[e1,e2,BitVec.allOnes_xor]
  show ((~~~u.toBitVec).toNat:Int) % 18446744073709551616=Int.ofNat (~~~u).toNat
  have:(~~~u).toNat=(~~~u.toBitVec).toNat:=rfl
  rw[this]
  exact Int.emod_eq_of_lt (Int.natCast_nonneg _) (by have:=(~~~u.toBitVec).isLt; omega)
 ·exact h.elim
theorem zum (n:Int):n % 18446744073709551616=Int.ofNat (UInt64.ofInt n).toNat:=by
 unfold UInt64.ofInt
 rw[UInt64.toNat_ofNat']
 simp only[Int.ofNat_eq_natCast]
 omega
theorem zpn (n:Int):n % 256=Int.ofNat (UInt8.ofInt n).toNat:=by
 unfold UInt8.ofInt
 rw[UInt8.toNat_ofNat']
 simp only[Int.ofNat_eq_natCast]
 omega
theorem cvL_ok {k:IntKind} {x:LV} {a:AV} {K:LV→Prop} (hx:AR c x a) (h:cvL k x K):∃ k' n,a=.int k' n∧∃ v,AR c v (.int k (z99 k n))∧K v:=by
 unfold cvL at h
 simp only[iU_eq,bU_eq,uB_eq,iB_eq] at h
 split at h
 ·cases hx
  rename_i u
  refine⟨_,_,rfl,_,.u' ?_,h⟩
  rw[z2r]
  exact Int.emod_eq_of_lt (Int.natCast_nonneg _) (by have:=u.toNat_lt; simp only[Int.ofNat_eq_natCast]; omega)
 ·cases hx
  refine⟨_,_,rfl,_,.u' ?_,h⟩
  rename_i n
  rw[z2r]
  exact zum n
 ·cases hx
  rename_i u
  refine⟨_,_,rfl,_,.u' ?_,h⟩
  rw[z2r]
  have:=u.toNat_lt
  rw[UInt64.toNat_ofNat']
  show Int.ofNat u.toNat % 18446744073709551616=Int.ofNat (u.toNat % 2 ^ 64)
  simp only[Int.ofNat_eq_natCast]
  omega
 ·cases hx
  rename_i u
  exact⟨_,_,rfl,_,.i' (z2o ⟨by simp only[Int.ofNat_eq_natCast]; omega,by simp only[Int.ofNat_eq_natCast]; omega⟩),h.2⟩
 ·cases hx
  exact⟨_,_,rfl,_,.i' (z2o h.1),h.2⟩
 ·cases hx
  rename_i u
  have:=u.toNat_lt
  exact⟨_,_,rfl,_,.i' (z2o ⟨by simp only[Int.ofNat_eq_natCast]; omega,by simp only[Int.ofNat_eq_natCast]; omega⟩),h⟩
 ·cases hx
  rename_i u
  refine⟨_,_,rfl,_,.b' ?_,h⟩
  rw[z7j,UInt8.toNat_ofNat']
  show Int.ofNat u.toNat % 256=Int.ofNat (u.toNat % 2 ^ 8)
  simp only[Int.ofNat_eq_natCast]
  omega
 ·cases hx
  refine⟨_,_,rfl,_,.b' ?_,h⟩
  rename_i n
  rw[z7j]
  exact zpn n
 ·cases hx
  rename_i u
  refine⟨_,_,rfl,_,.b' ?_,h⟩
  rw[z7j]
  exact Int.emod_eq_of_lt (Int.natCast_nonneg _) (by have:=u.toNat_lt; simp only[Int.ofNat_eq_natCast]; omega)
 ·cases hx
  refine⟨_,_,rfl,_,.b' ?_,h⟩
  rename_i n
  rw[z7j]
  exact zpn n
 ·cases hx
  refine⟨_,_,rfl,_,?_,h⟩
  rename_i n
  have e:z99 .i32 n=w32 n:=by
   rw[z29]
   show (if (true && decide (n % 4294967296 ≥ 2147483648))=true then n % 4294967296 - 4294967296 else n % 4294967296)=w32 n
   simp only[Bool.true_and,decide_eq_true_eq,w32]
   split <;> omega
  rw[e]
  exact .int .i32 _
 ·cases hx
  exact⟨_,_,rfl,_,.i' (z2o h.1),h.2⟩
 ·exact h.elim
theorem layL_eq:∀ (r l:List AV) (i:Nat),i+r.length≤l.length→layL l i r=zft l i r
 | [],l,i,h=>by
  simp only[layL,zft,List.length_nil,Nat.add_zero,List.append_nil,List.take_append_drop]
 | a::r,l,i,h=>by
  simp only[List.length_cons] at h
  rw[layL,layL_eq r (l.set i a) (i+1) (by simp; omega)]
  refine List.ext_getElem? (fun j=>?_)
  rw[zg5 (by simp; omega),zg5 (by simp; omega)]
  simp only[List.length_cons]
  by_cases h1:i+1≤j∧j < i+1+r.length
  ·rw[if_pos h1,if_pos (by omega),show j - i=(j - (i+1))+1 from by omega,List.getElem?_cons_succ]
  ·rw[if_neg h1]
   by_cases h2:j=i
   ·subst h2
    rw[if_pos (by omega),List.getElem?_set_self (by omega)]
    simp
   ·rw[if_neg (by omega),List.getElem?_set_ne (Ne.symm h2)]
theorem zkm {ρ:LEnv} {E:Tr AV} (hE:EnvL c ρ E):∀ {ps:List (Nat×Nat×Lx)} {cs l:List LV} {cs':List AV},ps.all (·.2.2.ok)=true→ARs c cs cs'→zk4 ρ cs ps=some l→∃ l',zo5 (ρA E) cs' (rps ps)=some l'∧ARs c l l'
 | [],cs,l,cs',_,h,e=>by
  simp only[zk4,Option.some.injEq] at e
  subst e
  exact⟨cs',rfl,h⟩
 | (off,size,x)::ps,cs,l,cs',hok,h,e=>by
  simp only[List.all_cons,Bool.and_eq_true] at hok
  simp only[zk4] at e
  split at e
  ·cases e
  ·rename_i r hr
   split at e
   ·rename_i hc
    obtain⟨h1,h2⟩:=hc
    obtain⟨r',q1,q2⟩:=(z1b hE hok.1).cells hr
    have hrl:=q2.length
    have hcl:=h.length
    obtain⟨l',q3,q4⟩:=zkm hE hok.2 (h.lay q2 off) e
    refine⟨l',?_,q4⟩
    simp only[rps,zo5,q1]
    have b1:Nat.beq r'.length size=true:=by rw[←hrl,h1]; exact Nat.beq_refl _
    have b2:Nat.ble (Nat.add off size) cs'.length=true:=Nat.ble_eq_true_of_le (by show off+size≤_; omega)
    simp only[b1,b2]
    rw[layL_eq _ _ _ (by omega)]
    exact q3
   ·cases e
theorem z38 {ρ:LEnv} {E:Tr AV} (hE:EnvL c ρ E) {d:Nat} {x:Option Lx} (hok:zhr x=true) {K:Nat→Prop} (h:bndL ρ d x K):∃ r n,optR (ρA E) (x.map Lx.r)=some r∧r.getD d=n∧K n:=by
 cases x with
 | none=>exact⟨none,d,rfl,rfl,h⟩
 | some x =>
  simp only[bndL] at h
  have hx:=z1b hE (show x.ok=true from hok)
  simp only[Option.map_some,optR]
  split at h
  ·rename_i n hn
   obtain⟨h1,h2⟩:=h
   rw[hn] at hx
   generalize x.r.ev (ρA E)=a at hx
   cases hx
   obtain⟨m,rfl⟩:=Int.eq_ofNat_of_zero_le h1
   exact⟨some m,m,rfl,rfl,h2⟩
  ·rename_i n hn
   rw[hn] at hx
   generalize x.r.ev (ρA E)=a at hx
   cases hx
   exact⟨some n.toNat,n.toNat,rfl,rfl,h⟩
  ·exact h.elim
end res
end Go.Sv
namespace Go.Sv
section res
variable {P : Program} {c : Cx} {G : z03} {K : LV → z03 → Prop}
theorem zt0 {d:TypeDesc} {k k':LV} {a a':AV} {b:Bool} (h1:AR c k a) (h2:AR c k' a') (h:keyL d k k'=some b):zjc d a a'=some b:=by
 unfold keyL at h
 split at h
 ·cases h1; cases h2
  cases h
  simp only[zjc,show z7g .i64 .i64=true from rfl,z7z]
 ·cases h1; cases h2
  cases h
  simp only[zjc,show z7g .u64 .u64=true from rfl,z7z,zkf]
 ·cases h1; cases h2
  cases h
  simp only[zjc,zwt]
 ·cases h
theorem zqm {d:TypeDesc} {k:LV} {a:AV} (hk:AR c k a) {K:Option LV→Prop}:∀ {es:List (LV×LV×Nat)} {es':List (AV×AV×Nat)},MRs c es es'→zjw d k K es→(zn8 d a es'=some none∧K none)∨∃ v b,zn8 d a es'=some (some b)∧AR c v b∧K (some v)
 | _,_,.nil,h=>.inl ⟨rfl,h⟩
 | (k1,v1,n)::l,_,.cons hk1 hv1 hr,h=>by
  simp only[zjw] at h
  split at h
  ·rename_i b hb
   have:=zt0 hk hk1 hb
   simp only[zn8,this]
   cases b with
   | true=>exact .inr ⟨v1,_,rfl,hv1,h.1 rfl⟩
   | false=>exact zqm hk hr (h.2 rfl)
  ·exact h.elim
theorem ztc {d:TypeDesc} {k v:LV} {a b:AV} {ck:Nat} (hk:AR c k a) (hv:AR c v b):∀ {es:List (LV×LV×Nat)} {es':List (AV×AV×Nat)} {K:List (LV×LV×Nat)→Bool→Prop},MRs c es es'→putL d k v ck K es→∃ r r' new,za9 d a b ck es'=some (r',new)∧MRs c r r'∧K r new
 | _,_,K,.nil,h=>⟨_,_,true,rfl,.cons hk hv .nil,h⟩
 | (k1,v1,n)::l,_,K,.cons hk1 hv1 hr,h=>by
  simp only[putL] at h
  split at h
  ·rename_i t ht
   have:=zt0 hk hk1 ht
   simp only[za9,this]
   cases t with
   | true=>exact⟨_,_,false,rfl,.cons hk hv hr,h.1 rfl⟩
   | false =>
    obtain⟨r,r',new,q1,q2,q3⟩:=ztc (K:=fun r new=>K ((k1,v1,n)::r) new) hk hv hr (h.2 rfl)
    exact⟨_,_,new,by rw[q1],.cons hk1 hv1 q2,q3⟩
  ·exact h.elim
theorem zul (hs:HSim c G) {x:LV} {a:AV} (hx:AR c x a) {K:List (LV×LV×Nat)→Prop} (h:mapL G x K):∃ es es',zss c.H a=some es'∧MRs c es es'∧K es∧(a=.nilMap∧es'=[]∨∃ o ck,a=.map o∧c.H.get o=some (.map es' ck)):=by
 unfold mapL at h
 split at h
 ·cases hx
  exact⟨[],[],rfl,.nil,h,.inl ⟨rfl,rfl⟩⟩
 ·rename_i p
  split at h
  ·rename_i es ck st hg
   cases hx with
   | @map _ o e =>
    obtain⟨_,o',es',he,r2,r3⟩:=hs.obj p _ _ _ hg e
    injection he with he
    subst he
    refine⟨es,es',?_,r3,h,.inr ⟨o,ck,rfl,r2⟩⟩
    simp only[zss,r2]
  ·exact h.elim
 ·exact h.elim
theorem zhb (hs:HSim c G) (k:K (.map G.length) (G++[.map [] 0 0])):z4m P c G K (z52 c.H):=by
 unfold z52
 obtain⟨q1,q2,_⟩:=hs.push (H':=c.H.push (.map [] 0)) (x:=.map c.H.next) (ob:=.map [] 0 0) (by show c.H.next≤c.H.next+1; omega) (fun o ho=>Heap.get_push_ne _ _ ho) (fun o e=>by cases e; exact⟨Nat.le_refl _,by show c.H.next < c.H.next+1; omega⟩)
  ⟨rfl,c.H.next,[],rfl,Heap.get_push_same _ _,.nil⟩
 exact⟨_,.map G.length,_,rfl,q1,q2,.map (by rw[←hs.len]; exact List.getElem?_concat_length),k⟩
theorem zsr (hs:HSim c G) {d:TypeDesc} {m k v:LV} {ma ka va:AV} (hm:AR c m ma) (hk:AR c k ka) (hv:AR c v va) (h:znc G d m k v fun G'=>K .any G') :
  z4m P c G K (match (generalizing:=false) ma with
   | .map o=>match c.H.get o with
    | some (.map es clock)=>match za9 d ka va clock es with
     | some (es',true)=>.val z23 (c.H.put o (.map es' (Nat.add clock 1)))
     | some (es',false)=>.val z23 (c.H.put o (.map es' clock))
     | none=>.no
    | _=>.no
   | _=>.no):=by
 unfold znc at h
 split at h
 ·rename_i p
  split at h
  ·rename_i es ck st hg
   cases hm with
   | @map _ o e =>
    obtain⟨_,o',es',he,r2,r3⟩:=hs.obj p _ _ _ hg e
    injection he with he
    subst he
    obtain⟨r,r',new,q1,q2,q3⟩:=ztc hk hv r3 h
    have hlt:o < c.H.next:=hs.lt o ⟨p,_,_,_,hg,rfl,e,rfl⟩
    have fin:∀ ck',K .any (G.set p (.map r ck' (st+1)))→z4m P c G K (.val z23 (c.H.put o (.map r' ck'))):=by
     intro ck' kk
     obtain⟨u1,u2,u3⟩:=hs.upd (k':=0) (x':=.map o) (ob':=.map r ck' (st+1)) (H':=c.H.put o (.map r' ck')) hg rfl e (Nat.le_refl _) (fun o' _ hne=>Heap.get_put_ne _ _ (fun q=>hne (by rw[q]; rfl))) (fun o' e'=>by cases e'; exact⟨.inl rfl,hlt⟩) (Nat.le_refl _) (fun _=>rfl) (fun _=>rfl) (.inl (Nat.lt_succ_self _))
      (fun hle=>⟨rfl,o,r',rfl,Heap.get_put_same _ _ _,q2.mono hle⟩)
     exact⟨_,.any,_,rfl,u1,u2,.any _,kk⟩
    simp only[r2,q1]
    cases new with
    | true=>exact fin _ q3
    | false=>exact fin _ q3
  ·exact h.elim
 ·exact h.elim
theorem HSim.freeze (hs:HSim c G) {p k o st:Nat} {x:AV} {ob:LObj} (hG:G[p]?=some ob) (hl:ob.live=true) (hst:ob.st < st) (hp:c.hd[p]?=some (k,x)) (ho:idOf x=some o) :
  HSim ⟨c.hd,fun q=>c.Fz q∨q=o,c.H⟩ (G.set p (.dead st))∧Step c G ⟨c.hd,fun q=>c.Fz q∨q=o,c.H⟩ (G.set p (.dead st)):=by
 have hpg:p < G.length:=(List.getElem?_eq_some_iff.1 hG).1
 have hle:CxLe c ⟨c.hd,fun q=>c.Fz q∨q=o,c.H⟩:=⟨fun p k h e=>⟨k,h,e,Nat.le_refl _,fun _=>rfl,fun _=>rfl⟩,fun q hq=>⟨.inl hq,rfl⟩⟩
 have hino:Own c G o:=⟨p,ob,k,x,hG,hl,hp,ho⟩
 have hinv:∀ {q:Nat} {ob1:LObj},(G.set p (.dead st))[q]?=some ob1→(q=p∧ob1=.dead st)∨(q≠p∧G[q]?=some ob1):=by
  intro q ob1 e
  by_cases hq:q=p
  ·subst hq
   rw[List.getElem?_set_self hpg] at e
   cases e; exact .inl ⟨rfl,rfl⟩
  ·rw[List.getElem?_set_ne (Ne.symm hq)] at e
   exact .inr ⟨hq,e⟩
 have hown:∀ q,Own ⟨c.hd,fun q=>c.Fz q∨q=o,c.H⟩ (G.set p (.dead st)) q→Own c G q∧q≠o:=by
  rintro q ⟨p1,ob1,k1,h1,e1,e2,e3,e4⟩
  rcases hinv e1 with ⟨_,rfl⟩ | ⟨hne,e1⟩
  ·cases e2
  ·refine⟨⟨p1,ob1,k1,h1,e1,e2,e3,e4⟩,fun hq=>hne ?_⟩
   subst hq
   exact hs.excl p1 p ob1 ob k1 h1 k x q e1 hG e2 hl e3 hp e4 ho
 refine⟨⟨by simp[hs.len],fun q hq=>hq.elim (hs.fz q) (fun e=>by rw[e]; exact hs.lt o hino),fun q hq=>hs.lt q (hown q hq).1,fun q hq hf=>hf.elim (hs.sep q (hown q hq).1) (hown q hq).2,fun q ob1 k1 h1 e1 e2=>?_,?_⟩,⟨hle,Nat.le_refl _,fun _ _ _=>rfl,fun q hq=>.inl (hown q hq).1,fun q hq=>hq.elim .inl (fun e=>.inr (.inl (by rw[e]; exact hino))),fun q ob1 ob2 e1 e2=>?_,fun q ob1 ob2 k1 h1 o1 e1 e2 e3 e4 e5 e6=>?_⟩⟩
 ·rcases hinv e1 with ⟨_,rfl⟩ | ⟨_,e1⟩
  ·trivial
  ·by_cases hl1:ob1.live=true
   ·exact (hs.obj q ob1 k1 h1 e1 e2).mono hle (fun _ _=>rfl)
   ·cases ob1 <;> first | exact absurd rfl hl1 | trivial
 ·intro q r ob1 ob2 k1 h1 k2 h2 o1 e1 e2 e3 e4 e5 e6 e7 e8
  rcases hinv e1 with ⟨_,rfl⟩ | ⟨_,e1⟩
  ·cases e3
  ·rcases hinv e2 with ⟨_,rfl⟩ | ⟨_,e2⟩
   ·cases e4
   ·exact hs.excl q r ob1 ob2 k1 h1 k2 h2 o1 e1 e2 e3 e4 e5 e6 e7 e8
 ·rcases hinv e2 with ⟨rfl,rfl⟩ | ⟨_,e2⟩
  ·rw[hG] at e1; cases e1
   exact Nat.le_of_lt hst
  ·rw[e1] at e2; cases e2
   exact Nat.le_refl _
 ·rcases hinv e2 with ⟨rfl,rfl⟩ | ⟨_,e2⟩
  ·rw[hG] at e1; cases e1
   have:ob.st=st:=e6
   omega
  ·rw[e1] at e2; cases e2
   exact⟨rfl,rfl,rfl⟩
end res
end Go.Sv
namespace Go.Sv
section res
variable {P : Program} {c : Cx} {G : z03} {K : LV → z03 → Prop}
theorem zn6 (l h m o v i esz:Nat) (hlh:l≤h) (hhm:h≤m):(h - l=0∧zh8 l h m o v i esz=.emp∧l≠0)∨∃ room',zh8 l h m o v i esz=.sl o v (i+l * esz) (h - l) esz room'∧∀ r,room'=some r→h - l≤r:=by
 unfold zh8
 cases h1:Nat.beq l m with
 | true =>
  have e1:=Nat.eq_of_beq_eq_true h1
  cases h2:Nat.beq l 0 with
  | true =>
   have e2:=Nat.eq_of_beq_eq_true h2
   have:h - l=0:=by omega
   refine .inr ⟨some 0,?_,fun r _=>by omega⟩
   rw[this,e2]; simp
  | false=>exact .inl ⟨by omega,rfl,fun e=>by subst e; cases h2⟩
 | false=>exact .inr ⟨_,rfl,fun r e=>by cases e; show h - l≤m - l; omega⟩
theorem z8g {lo hi:Option Nat} {o v i len esz:Nat} {room:Option Nat} (hlh:lo.getD 0≤hi.getD len) (hh:hi.getD len≤len) (hr:∀ r,room=some r→len≤r) :
  ∃ a,z39 esz lo hi none o v i len esz room=some a∧zju a=true∧((hi.getD len - lo.getD 0=0∧a=.emp∧lo.getD 0≠0)∨∃ room',a=.sl o v (i+lo.getD 0 * esz) (hi.getD len - lo.getD 0) esz room'∧∀ r,room'=some r→hi.getD len - lo.getD 0≤r):=by
 generalize hl:lo.getD 0=l at hlh
 generalize hx:hi.getD len=h at hlh hh
 have key:∀ a,((h - l=0∧a=.emp∧l≠0)∨∃ room',a=AV.sl o v (i+l * esz) (h - l) esz room'∧∀ r,room'=some r→h - l≤r)→zju a=true:=by
  rintro a (⟨_,rfl,_⟩ | ⟨_,rfl,_⟩) <;> rfl
 unfold z39
 rw[Nat.beq_refl,hl,hx]
 dsimp only
 unfold z7e
 have b1:Nat.ble l h=true:=Nat.ble_eq_true_of_le hlh
 cases room with
 | some r =>
  have b2:Nat.ble h ((some r).getD len)=true:=Nat.ble_eq_true_of_le (by have:=hr r rfl; show h≤r; omega)
  rw[b1,b2]
  dsimp only
  have:=zn6 l h r o v i esz hlh (by have:=hr r rfl; omega)
  exact⟨_,rfl,key _ this,this⟩
 | none =>
  have b2:Nat.ble h ((none:Option Nat).getD len)=true:=Nat.ble_eq_true_of_le hh
  rw[b1,b2]
  dsimp only
  cases h2:Nat.beq l 0 with
  | true =>
   have e2:=Nat.eq_of_beq_eq_true h2
   have:(h - l=0∧(AV.sl o v i h esz none)=.emp∧l≠0)∨∃ room',AV.sl o v i h esz none=AV.sl o v (i+l * esz) (h - l) esz room'∧∀ r,room'=some r→h - l≤r:=.inr ⟨none,by rw[e2]; simp,fun r e=>by cases e⟩
   exact⟨_,rfl,key _ this,this⟩
  | false =>
   cases h3:Nat.beq l h with
   | true =>
    have e3:=Nat.eq_of_beq_eq_true h3
    exact⟨_,rfl,rfl,.inl ⟨by omega,rfl,fun e=>by subst e; cases h2⟩⟩
   | false=>exact⟨_,rfl,rfl,.inr ⟨none,rfl,fun r e=>by cases e⟩⟩
theorem zea {lo hi:Option Nat} {o v i len esz m:Nat} {room:Option Nat} (hlh:lo.getD 0≤hi.getD len) (hh:hi.getD len≤m) (hm:m≤len) (hr:∀ r,room=some r→len≤r) :
  ∃ a,z39 esz lo hi (some m) o v i len esz room=some a∧zju a=true∧((hi.getD len - lo.getD 0=0∧a=.emp∧lo.getD 0≠0)∨∃ room',a=.sl o v (i+lo.getD 0 * esz) (hi.getD len - lo.getD 0) esz room'∧∀ r,room'=some r→hi.getD len - lo.getD 0≤r):=by
 generalize hl:lo.getD 0=l at hlh
 generalize hx:hi.getD len=h at hlh hh
 have key:∀ a,((h - l=0∧a=.emp∧l≠0)∨∃ room',a=AV.sl o v (i+l * esz) (h - l) esz room'∧∀ r,room'=some r→h - l≤r)→zju a=true:=by
  rintro a (⟨_,rfl,_⟩ | ⟨_,rfl,_⟩) <;> rfl
 unfold z39
 rw[Nat.beq_refl,hl,hx]
 dsimp only
 unfold z7e
 have hmost:m≤room.getD len:=by
  cases room with
  | none=>exact hm
  | some r=>have:=hr r rfl; show m≤r; omega
 rw[show Nat.ble l h=true from Nat.ble_eq_true_of_le hlh,show Nat.ble h (room.getD len)=true from Nat.ble_eq_true_of_le (Nat.le_trans hh hmost)]
 dsimp only
 rw[show Nat.ble h m=true from Nat.ble_eq_true_of_le hh,show Nat.ble m (room.getD len)=true from Nat.ble_eq_true_of_le hmost]
 dsimp only
 have:=zn6 l h m o v i esz hlh hh
 exact⟨_,rfl,key _ this,this⟩
theorem ze3 {lo hi:Option Nat} {size o v i len esz:Nat} {room:Option Nat} {a:AV} (h:z39 size lo hi none o v i len esz room=some a) (h0:lo.getD 0=0):∃ i' n,a=.sl o v i' n esz room:=by
 unfold z39 at h
 split at h
 ·cases h
 rw[h0] at h
 unfold z7e at h
 split at h
 ·cases h
 split at h
 ·cases h
 dsimp only at h
 cases room with
 | some r =>
  dsimp only at h
  cases h
  unfold zh8
  split
  ·rename_i h1
   have:=Nat.eq_of_beq_eq_true h1
   subst this
   exact⟨_,_,rfl⟩
  ·exact⟨_,_,rfl⟩
 | none =>
  dsimp only at h
  cases h
  exact⟨_,_,rfl⟩
theorem zl3 {lo hi:Option Nat} {size o v i len esz n0:Nat} {room:Option Nat} {a hh:AV} (h:z39 size lo hi none o v i len esz room=some a) (h0:n0=0→lo.getD 0=0) (r2:hh=.sl o v 0 len esz room):tied n0 hh a:=by
 intro hn
 obtain⟨i',n,rfl⟩:=ze3 h (h0 hn)
 subst r2
 exact .inl rfl
theorem zja {lo hi:Option Nat} {size o v i len esz n0 m0 i2 n2:Nat} {room':Option Nat} {a hh:AV} (h:z39 size lo hi none o v i len esz room'=some a) (h0:n0=0→lo.getD 0=0∧m0=0) (hz:tied m0 hh (.sl o v i2 n2 esz room')):tied n0 hh a:=by
 intro hn
 obtain⟨i',n,rfl⟩:=ze3 h (h0 hn).1
 exact hz (h0 hn).2
theorem zjm {lo hi:Option Nat} {size o v i len esz m n0:Nat} {room:Option Nat} {a hh:AV} (h:z39 size lo hi (some m) o v i len esz room=some a) (h0:n0=0→lo.getD 0=0) (hm:m≤len) (r2:hh=.sl o v 0 len esz room):tied n0 hh a:=by
 intro hn
 have h0:=h0 hn
 subst r2
 unfold z39 at h
 split at h
 ·cases h
 rw[h0] at h
 unfold z7e at h
 split at h
 ·cases h
 split at h
 ·cases h
 dsimp only at h
 split at h
 ·cases h
 split at h
 ·cases h
 cases h
 have hc:∃ (i' n r:Nat),zh8 0 (hi.getD len) m o v i esz=.sl o v i' n esz (some r)∧r≤m:=by
  unfold zh8
  cases Nat.beq 0 m with
  | true=>exact⟨_,_,0,rfl,Nat.zero_le _⟩
  | false=>exact⟨_,_,m - 0,rfl,Nat.sub_le _ _⟩
 obtain⟨i',n,r,e,hr⟩:=hc
 rw[e]
 exact .inr ⟨r,rfl,by omega⟩
theorem zm4 {lo hi:Option Nat} {size o v i len esz m:Nat} {room:Option Nat} {a:AV} (h:z39 size lo hi (some m) o v i len esz room=some a) (h0:lo.getD 0=0) (h1:hi.getD len=m) (hm:0 < m):a=.sl o v i m esz (some m):=by
 unfold z39 at h
 split at h
 ·cases h
 rw[h0,h1] at h
 unfold z7e at h
 split at h
 ·cases h
 split at h
 ·cases h
 dsimp only at h
 split at h
 ·cases h
 split at h
 ·cases h
 cases h
 unfold zh8
 have hb:Nat.beq 0 m=false:=by
  cases hb:Nat.beq 0 m with
  | false=>rfl
  | true=>have:=Nat.eq_of_beq_eq_true hb; omega
 rw[hb]
 dsimp only
 rw[show Nat.add i (Nat.mul 0 esz)=i by show i+0 * esz=i; omega,show Nat.sub m 0=m from rfl]
theorem AR.lst' {l:List LV} {len esz:Nat} {a:AV} {o v i n:Nat} {l':List AV} {j:Nat} (hf:c.Fz o) (hr:z1n c.H o v i n=some l') (hl:ARs c l l') (hle:j * esz+len * esz≤n)
  (ha:(len=0∧a=.emp)∨∃ room,a=.sl o v (i+j * esz) len esz room∧∀ r,room=some r→len≤r):AR c (.lst ((l.drop (j * esz)).take (len * esz)) len esz) a:=by
 have hn:=zcp hr
 have hll:=hl.length
 rcases ha with ⟨rfl,rfl⟩ | ⟨room,rfl,hrm⟩
 ·simp only[Nat.zero_mul,List.take_zero]; exact .lstEmp
 ·exact .lst hf hrm (by simp; omega) (zj3 hr hle) ((hl.drop _).take _)
theorem zm9 (mx:Bool) (a b:Int):z66 mx (.int .i64 a) [.int .i64 b]=some (.int .i64 (match mx with | true=>max a b | false=>min a b)):=by
 have hk:z7g .i64 .i64=true:=rfl
 simp only[z66,maxA,hk]
 cases mx with
 | true =>
  simp only[z2p]
  by_cases h:a < b
  ·rw[decide_eq_true h]; simp only; congr 2; omega
  ·rw[decide_eq_false h]; simp only; congr 2; omega
 | false =>
  simp only[z2p]
  by_cases h:b < a
  ·rw[decide_eq_true h]; simp only; congr 2; omega
  ·rw[decide_eq_false h]; simp only; congr 2; omega
theorem maxi_i3 (mx:Bool) (a b d:Int):z66 mx (.int .i64 a) [.int .i64 b,.int .i64 d]=some (.int .i64 (match mx with | true=>max (max a b) d | false=>min (min a b) d)):=by
 cases mx with
 | true =>
  have h1:=zm9 true a b
  have h2:=zm9 true (max a b) d
  simp only[z66] at h1 h2 ⊢
  cases hm:maxA true (.int .i64 a) (.int .i64 b) with
  | none=>rw[hm] at h1; cases h1
  | some r =>
   rw[hm] at h1
   simp only[Option.some.injEq] at h1
   subst h1
   exact h2
 | false =>
  have h1:=zm9 false a b
  have h2:=zm9 false (min a b) d
  simp only[z66] at h1 h2 ⊢
  cases hm:maxA false (.int .i64 a) (.int .i64 b) with
  | none=>rw[hm] at h1; cases h1
  | some r =>
   rw[hm] at h1
   simp only[Option.some.injEq] at h1
   subst h1
   exact h2
theorem maxi_u (mx:Bool) (a b:UInt64):z66 mx (.int .u64 (Int.ofNat a.toNat)) [.int .u64 (Int.ofNat b.toNat)]=some (.int .u64 (Int.ofNat (match mx with | true=>if a < b then b else a | false=>if b < a then b else a:UInt64).toNat)):=by
 have hk:z7g .u64 .u64=true:=rfl
 simp only[z66,maxA,hk]
 cases mx with
 | true =>
  simp only[z2p,zf6]
  by_cases h:a < b
  ·rw[decide_eq_true h,if_pos h]
  ·rw[decide_eq_false h,if_neg h]
 | false =>
  simp only[z2p,zf6]
  by_cases h:b < a
  ·rw[decide_eq_true h,if_pos h]
  ·rw[decide_eq_false h,if_neg h]
theorem bytesA_map:∀ l:List UInt8,zah.bytesA (l.map fun b=>AV.int .u8 (Int.ofNat b.toNat))=some (z1g l)
 | []=>rfl
 | b::l=>by
  have hb:=b.toNat_lt
  have h:Nat.blt b.toNat 256=true:=by unfold Nat.blt; exact Nat.ble_eq_true_of_le hb
  simp only[List.map_cons,zah.bytesA,h,if_true,bytesA_map l,z1g]
theorem ARs_b:∀ {bs:List UInt8} {l':List AV},ARs c (bs.map LV.b) l'→l'=bs.map fun b=>AV.int .u8 (Int.ofNat b.toNat)
 | [],l',h=>by cases h; rfl
 | b::bs,l',h=>by
  cases h with
  | cons h hs=>cases h; rw[ARs_b hs]; rfl
theorem bytL_ok (hs:HSim c G) {x:LV} {a:AV} {K:List LV→Prop} (hx:AR c x a) (h:bytL G x K):∃ l l',ARs c l l'∧K l∧((a=.nilSl∧l'=[])∨∃ o v i room,a=.sl o v i l'.length 1 room∧z1n c.H o v i l'.length=some l'):=by
 unfold bytL at h
 split at h
 ·cases hx; exact⟨[],[],.nil,h,.inl ⟨rfl,rfl⟩⟩
 ·rename_i p k
  split at h
  ·rename_i l len esz ver st hg
   obtain⟨hk0,rfl,h⟩:=h
   cases hx with
   | @dy _ _ k' hh _ e hk ha _ =>
    obtain⟨r0,r1,r2⟩:=hs.obj p _ _ _ hg e
    have hha:=ha (by omega)
    rcases r2 with ⟨r2,r3⟩ | ⟨o,v,room,t,clen,l',r2,r3,r4,r5,r6,_⟩
    ·subst r3
     have:l=[]:=List.eq_nil_of_length_eq_zero (by simpa using r1)
     subst this
     exact⟨[],[],.nil,h,.inl ⟨hha.trans r2,rfl⟩⟩
    ·have hl':l'.length=len * 1:=by rw[←r6.length]; exact r1
     have hr:=z1m (i:=0) (n:=len * 1) r3 r5 r4 (by omega)
     rw[Nat.mul_one] at hl' hr
     refine⟨l,l',r6,h,.inr ⟨o,v,0,room,by rw[hha,r2,hl'],?_⟩⟩
     rw[hl',hr,List.drop_zero,List.take_of_length_le (by omega)]
  ·exact h.elim
 ·rename_i l len esz
  obtain⟨rfl,hne,h⟩:=h
  cases hx with
  | lst hf hrm hlen hr hl =>
   have hl':=zcp hr
   rw[Nat.mul_one] at hl' hr
   refine⟨l,_,hl,h,.inr ⟨_,_,_,_,by rw[hl'],by rw[hl']; exact hr⟩⟩
  | lstNil=>exact absurd rfl hne
  | lstEmp=>exact absurd rfl hne
 ·exact h.elim
theorem OpL_ok (hs:HSim c G) {ρ:LEnv} {E:Tr AV} (hE:EnvL c ρ E) {o:LOp} (hok:o.ok=true) (h:OpL P ρ G o K):z4m P c G K (evR P (ρA E) c.H o.r):=by
 cases o with
 | move x=>exact .same hs (z1b hE hok) h
 | pick cc a b =>
  simp only[LOp.ok,Bool.and_eq_true] at hok
  have hc:=z1b hE hok.1.1
  have ha:=z1b hE hok.1.2
  have hb:=z1b hE hok.2
  simp only[OpL] at h
  simp only[LOp.r,evR]
  generalize cc.ev ρ=cv at h hc
  generalize cc.r.ev (ρA E)=ca at hc ⊢
  cases cv <;> first | exact h.elim | skip
  rename_i t
  cases hc
  dsimp only at h
  split at h
  ·rename_i x y hx hy
   rw[hx] at ha
   rw[hy] at hb
   cases t with
   | true=>exact .same hs ha h
   | false=>exact .same hs hb h
  ·cases t with
   | true=>exact .same hs ha (h.1 rfl)
   | false=>exact .same hs hb (h.2 rfl)
 | alloc l=>exact zii hs (z7k c hok) h
 | box x =>
  have hx:=z1b hE hok
  simp only[OpL] at h
  simp only[LOp.r,evR]
  split at h
  ·rename_i l hl
   obtain⟨l',q1,q2⟩:=hx.cells hl
   rw[q1]
   exact zii hs q2 h
  ·exact h.elim
 | build cs ps =>
  simp only[LOp.ok,Bool.and_eq_true] at hok
  simp only[OpL] at h
  simp only[LOp.r,evR]
  split at h
  ·rename_i l hl
   obtain⟨l',q1,q2⟩:=zkm hE hok.2 (z7k c hok.1) hl
   rw[q1]
   exact .same hs (.agg q2) h
  ·exact h.elim
 | buildSl size len cs ps =>
  simp only[LOp.ok,Bool.and_eq_true] at hok
  simp only[OpL] at h
  simp only[LOp.r,evR]
  split at h
  ·rename_i l hl
   obtain⟨l',q1,q2⟩:=zkm hE hok.2 (z7k c hok.1) hl
   rw[q1]
   exact z4q hs q2 h.1 (fun r e=>by cases e; rfl) h.2
  ·exact h.elim
 | load1 x =>
  have hx:=z1b hE hok
  simp only[OpL] at h
  simp only[LOp.r,evR]
  obtain⟨o,v,i,w,b,q1,q2,q3,q4⟩:=zpi hs hx h
  rw[q1]
  dsimp only
  rw[q2]
  exact .same hs q3 q4
 | loadN n x =>
  have hx:=z1b hE hok
  simp only[OpL] at h
  simp only[LOp.r,evR]
  obtain⟨o,v,i,l',l,q1,q2,q3,q4⟩:=zjv hs hx h
  rw[q1]
  dsimp only
  rw[q2]
  exact .same hs (.agg q3) q4
 | store n x y =>
  simp only[LOp.ok,Bool.and_eq_true] at hok
  have hx:=z1b hE hok.1
  have hy:=z1b hE hok.2
  simp only[OpL] at h
  simp only[LOp.r,evR]
  split at h
  ·rename_i l hl
   obtain⟨l',p1,p2⟩:=hy.cells hl
   obtain⟨o,v,i,H',c',G',q1,q2,q3,q4,q5,q6⟩:=za6 hs hx p2 h.2
   rw[q1]
   dsimp only
   rw[p1]
   dsimp only
   have hb:Nat.beq l'.length n=true:=by rw[←p2.length,h.1]; exact Nat.beq_refl _
   rw[hb]
   dsimp only
   rw[q2]
   exact⟨c',.tup [],G',q3,q4,q5,.tup .nil,q6⟩
  ·exact h.elim
 | nilChk x =>
  have hx:=z1b hE hok
  simp only[OpL] at h
  simp only[LOp.r,evR]
  generalize x.ev ρ=v at h hx
  generalize x.r.ev (ρA E)=a at hx ⊢
  split at h
  ·have h0:=hx
   cases hx
   exact .same hs h0 h
  ·have h0:=hx
   cases hx
   exact .same hs h0 h
  ·have h0:=hx
   cases hx
   exact .same hs h0 h
  ·have h0:=hx
   cases hx
   exact .same hs h0 h
  ·exact h.elim
 | bin op g t x y =>
  simp only[LOp.ok,Bool.and_eq_true] at hok
  exact .ret hs (binL_ok (z1b hE hok.1) (z1b hE hok.2) h)
 | un op x=>exact .ret hs (unL_ok (z1b hE hok) h)
 | cvInt k x =>
  obtain⟨k',n,q1,v,q2,q3⟩:=cvL_ok (z1b hE hok) (show cvL k (x.ev ρ) (fun v=>K v G) from h)
  simp only[LOp.r,evR]
  rw[q1]
  exact .same hs q2 q3
 | cvStr x =>
  have hx:=z1b hE hok
  simp only[OpL] at h
  simp only[LOp.r,evR]
  obtain⟨l,l',q1,⟨bs,rfl,q2⟩,q3⟩:=bytL_ok hs hx h
  have hl':=ARs_b q1
  rcases q3 with ⟨q3,q4⟩ | ⟨o,v,i,room,q3,q4⟩
  ·rw[q3]
   rw[q4] at hl'
   have:bs=[]:=by cases bs with
    | nil=>rfl
    | cons _ _=>cases hl'
   subst this
   exact .same hs (.str []) q2
  ·rw[q3]
   show z4m P c G K (match z1n c.H o v i l'.length with
    | some r=>match zah.bytesA r with
     | some n=>OR.val (.str l'.length n) c.H
     | none=>.no
    | none=>.no)
   rw[q4]
   dsimp only
   rw[hl',bytesA_map]
   dsimp only
   exact .same hs (.str' (by simp) rfl) q2
 | cvSame x =>
  have hx:=z1b hE hok
  simp only[OpL] at h
  simp only[LOp.r,evR]
  generalize x.ev ρ=v at h hx
  generalize x.r.ev (ρA E)=a at hx ⊢
  split at h
  ·cases hx; exact .same hs (.str _) h
  ·exact h.elim
 | cvBytes x =>
  have hx:=z1b hE hok
  simp only[OpL] at h
  simp only[LOp.r,evR]
  generalize x.ev ρ=v at h hx
  generalize x.r.ev (ρA E)=a at hx ⊢
  split at h
  ·rename_i l
   cases hx
   exact z4q hs (znk l c) (by simp) (fun r e=>by cases e) h
  ·exact h.elim
 | mkFunc f a b =>
  simp only[LOp.ok,Bool.and_eq_true] at hok
  exact .same hs (.fn (zqz hE hok.1) (zqz hE hok.2)) h
 | mkSl size z l cc =>
  simp only[LOp.ok,Bool.and_eq_true] at hok
  have hl:=z1b hE hok.1.2
  have hc:=z1b hE hok.2
  simp only[OpL] at h
  simp only[LOp.r,evR]
  generalize l.ev ρ=lv at h hl
  generalize l.r.ev (ρA E)=la at hl ⊢
  generalize cc.ev ρ=cv at h hc
  generalize cc.r.ev (ρA E)=ca at hc ⊢
  split at h
  ·rename_i n m
   obtain⟨rfl,h1,h2,h3,h4⟩:=h
   cases hl; cases hc
   obtain⟨k,rfl⟩:=Int.eq_ofNat_of_zero_le h1
   have b1:Nat.ble k k=true:=Nat.ble_eq_true_of_le (Nat.le_refl _)
   have b2:Nat.ble k 1048576=true:=Nat.ble_eq_true_of_le (by omega)
   show z4m P c G K (match Nat.ble k k with
    | true=>match Nat.ble k 1048576 with
     | true=>match newObj c.H (z1y (toAs z) k) with
      | some (o,H')=>OR.val (.sl o 0 0 k size (some k)) H'
      | none=>.no
     | false=>.no
    | false=>.no)
   rw[b1,b2]
   exact z4q hs ((z7k c hok.1.1).rep k) (by rw[z77,h3]) (fun r e=>by cases e; rfl) h4
  ·exact h.elim
 | slStr x lo hi =>
  simp only[LOp.ok,Bool.and_eq_true] at hok
  have hx:=z1b hE hok.1.1
  simp only[OpL] at h
  simp only[LOp.r,evR]
  generalize x.ev ρ=v at h hx
  generalize x.r.ev (ρA E)=a at hx ⊢
  split at h
  ·rename_i l
   cases hx
   obtain⟨rlo,nlo,q1,q2,q3⟩:=z38 hE hok.1.2 h
   obtain⟨rhi,nhi,q4,q5,h1,h2,h3⟩:=z38 hE hok.2 q3
   rw[q1,q4]
   dsimp only
   rw[q2,q5]
   have b1:Nat.ble nlo nhi=true:=Nat.ble_eq_true_of_le h1
   have b2:Nat.ble nhi l.length=true:=Nat.ble_eq_true_of_le h2
   rw[b1,b2]
   dsimp only
   refine .same hs (.str' (by simp; omega) ?_) h3
   rw[packL_take,packL_drop]
   rfl
  ·exact h.elim
 | slSl size x lo hi =>
  simp only[LOp.ok,Bool.and_eq_true] at hok
  have hx:=z1b hE hok.1.1
  simp only[OpL] at h
  simp only[LOp.r,evR]
  have hmx:optR (ρA E) none=some none:=rfl
  rw[hmx]
  split at h
  ·rename_i hv
   rw[hv] at hx
   generalize x.r.ev (ρA E)=a at hx ⊢
   cases hx
   obtain⟨rlo,nlo,q1,q2,q3⟩:=z38 hE hok.1.2 h
   obtain⟨rhi,nhi,q4,q5,h1,h2,h3⟩:=z38 hE hok.2 q3
   rw[q1,q4]
   dsimp only
   rw[q2,q5,h1,h2]
   exact .same hs .nilSl h3
  ·rename_i p k hv
   rw[hv] at hx
   generalize x.r.ev (ρA E)=a at hx ⊢
   split at h
   ·rename_i l len esz ver st hg
    obtain⟨hk0,rfl,h⟩:=h
    obtain⟨rlo,nlo,q1,q2,q3⟩:=z38 hE hok.1.2 h
    obtain⟨rhi,nhi,q4,q5,h1,h2,h3⟩:=z38 hE hok.2 q3
    rw[q1,q4]
    cases hx with
    | @dy _ _ k' hh _ e hk ha _ =>
     obtain⟨r0,r1,r2⟩:=hs.obj p _ _ _ hg e
     have hha:=ha (by omega)
     rcases r2 with ⟨r2,r3⟩ | ⟨o,v,room,t,clen,l',r2,r3,r4,r5,r6,r7,r8⟩
     ·subst r3
      have e1:nlo=0:=by omega
      have e2:nhi=0:=by omega
      subst e1 e2
      rw[hha,r2]
      dsimp only
      rw[q2,show rhi.getD 0=0 from q5]
      exact .same hs (.vw e hk (fun _=>.inl ⟨rfl,.inl rfl⟩) rfl (fun _ _=>trivial)) h3
     ·obtain⟨a2,p1,p2,p3⟩:=z8g (lo:=rlo) (hi:=rhi) (o:=o) (v:=v) (i:=0) (esz:=esz) (len:=len) (room:=room) (by rw[q2,q5]; exact h1) (by rw[q5]; exact h2) (fun r e'=>(r7 r e').2)
      rw[hha,r2]
      dsimp only
      rw[p1]
      rw[q2,q5,Nat.zero_add] at p3
      refine .same hs (.vw e hk (fun _=>?_) p2 (fun _=>zl3 p1 (fun h0=>by rw[q2]; exact h0) r2)) h3
      rcases p3 with ⟨p3,p4,p5⟩ | ⟨room',p4⟩
      ·exact .inl ⟨p3,.inr ⟨p4,p5⟩⟩
      ·exact .inr ⟨o,v,len,esz,room,room',r2,p4⟩
   ·exact h.elim
  ·rename_i p k l0 len hv
   rw[hv] at hx
   generalize x.r.ev (ρA E)=a at hx ⊢
   split at h
   ·rename_i l len0 esz ver st hg
    obtain⟨hk0,rfl,h⟩:=h
    obtain⟨rlo,nlo,q1,q2,q3⟩:=z38 hE hok.1.2 h
    obtain⟨rhi,nhi,q4,q5,h1,h2,h3⟩:=z38 hE hok.2 q3
    rw[q1,q4]
    cases hx with
    | @vw _ _ _ _ k' hh _ e hk ha _ hz =>
     have hkv:=(hs.obj p _ _ _ hg e).1
     rcases ha (by omega) with ⟨r3,r4⟩ | ⟨o,v,len',esz',room,room',r3,r4,r9⟩
     ·subst r3
      have e1:nlo=0:=by omega
      have e2:nhi=0:=by omega
      subst e1 e2
      rcases r4 with rfl | ⟨rfl,r5⟩
      ·dsimp only
       rw[q2,show rhi.getD 0=0 from q5]
       exact .same hs (.vw e hk (fun _=>.inl ⟨rfl,.inl rfl⟩) rfl (fun _ _=>trivial)) h3
      ·dsimp only
       rw[q2,show rhi.getD 0=0 from q5]
       exact .same hs (.vw e hk (fun _=>.inl ⟨rfl,.inr ⟨rfl,r5⟩⟩) rfl (fun _ _=>trivial)) h3
     ·subst r3
      obtain⟨_,w1,w2,w3,_⟩:=z9w hs hg e
      subst w2 w3
      obtain⟨a2,p1,p2,p3⟩:=z8g (lo:=rlo) (hi:=rhi) (o:=o) (v:=v) (i:=l0 * esz') (esz:=esz') (len:=len) (room:=room') (by rw[q2,q5]; exact h1) (by rw[q5]; exact h2) r9
      rw[r4]
      dsimp only
      rw[p1]
      rw[q2,q5] at p3
      refine .same hs (.vw e hk (fun _=>?_) p2 (fun q=>zja p1 (fun h0=>⟨by rw[q2]; omega,by omega⟩) (r4 ▸ hz q))) h3
      rcases p3 with ⟨p3,p4,p6⟩ | ⟨room2,p4,p5⟩
      ·exact .inl ⟨p3,.inr ⟨p4,by omega⟩⟩
      ·exact .inr ⟨o,v,_,esz',room,room2,rfl,by rw[p4,Nat.add_mul],p5⟩
   ·exact h.elim
  ·rename_i l len esz hv
   rw[hv] at hx
   generalize x.r.ev (ρA E)=a at hx ⊢
   obtain⟨rfl,h⟩:=h
   obtain⟨rlo,nlo,q1,q2,q3⟩:=z38 hE hok.1.2 h
   obtain⟨rhi,nhi,q4,q5,h1,h2,h3⟩:=z38 hE hok.2 q3
   rw[q1,q4]
   have hnil:len=0→l=[]→K (.lst [] 0 esz) G:=fun e1 e2=>by
    have e3:nlo=0:=by omega
    have e4:nhi=0:=by omega
    subst e2 e3 e4
    simpa using h3
   cases hx with
   | lst hf hrm hlen hr hl =>
    obtain⟨a2,p1,p2,p3⟩:=z8g (lo:=rlo) (hi:=rhi) (by rw[q2,q5]; exact h1) (by rw[q5]; exact h2) hrm
    dsimp only
    rw[p1]
    rw[q2,q5] at p3
    refine .same hs (.lst' hf hr hl ?_ (p3.imp (fun h=>⟨h.1,h.2.1⟩) id)) h3
    rw[←Nat.add_mul]
    exact Nat.mul_le_mul_right _ (by omega)
   | lstNil =>
    have e3:nlo=0:=by omega
    have e4:nhi=0:=by omega
    dsimp only
    rw[q2,show rhi.getD 0=nhi from q5,e3,e4]
    exact .same hs .lstNil (hnil rfl rfl)
   | lstEmp =>
    have e3:nlo=0:=by omega
    have e4:nhi=0:=by omega
    dsimp only
    rw[q2,show rhi.getD 0=nhi from q5,e3,e4]
    exact .same hs .lstEmp (hnil rfl rfl)
  ·exact h.elim
 | slSl3 size x lo hi mx =>
  simp only[LOp.ok,Bool.and_eq_true] at hok
  have hx:=z1b hE hok.1.1.1
  have hmo:zhr (some mx)=true:=hok.2
  simp only[OpL] at h
  simp only[LOp.r,evR]
  split at h
  ·rename_i p k hv
   rw[hv] at hx
   generalize x.r.ev (ρA E)=a at hx ⊢
   split at h
   ·rename_i l len esz ver st hg
    obtain⟨hk0,rfl,h⟩:=h
    obtain⟨rlo,nlo,q1,q2,q3⟩:=z38 hE hok.1.1.2 h
    obtain⟨rhi,nhi,q4,q5,q6⟩:=z38 hE hok.1.2 q3
    obtain⟨rmx,nmx,q7,q8,h0,h1,h2,h3,h4⟩:=z38 hE hmo q6
    simp only[Option.map_some] at q7
    rw[q1,q4,q7]
    cases hx with
    | @dy _ _ k' hh _ e hk ha _ =>
     obtain⟨r0,r1,r2⟩:=hs.obj p _ _ _ hg e
     have hha:=ha (by omega)
     have hmx:rmx=some nmx:=by
      cases rmx with
      | none=>unfold optR at q7; dsimp only at q7; split at q7 <;> cases q7
      | some m=>simp at q8; rw[q8]
     rcases r2 with ⟨r2,r3⟩ | ⟨o,v,room,t,clen,l',r2,r3,r4,r5,r6,r7,r8⟩
     ·omega
     ·obtain⟨a2,p1,p2,p3⟩:=zea (lo:=rlo) (hi:=rhi) (o:=o) (v:=v) (i:=0) (esz:=esz) (len:=len) (room:=room) (m:=nmx) (by rw[q2,q5]; exact h1) (by rw[q5]; exact h2) h3 (fun r e'=>(r7 r e').2)
      rw[hha,r2,hmx]
      dsimp only
      rw[p1]
      rw[q2,q5,Nat.zero_add] at p3
      unfold fullV at h4
      split at h4
      ·rename_i hful
       obtain⟨f1,f2,f3⟩:=of_decide_eq_true hful
       have hc:=zm4 p1 (by rw[q2]; exact f1) (by rw[q5]; exact f2) (by omega)
       exact .same hs (.vf e hk (fun _=>⟨o,v,len,esz,room,r2,by rw[hc,f2]⟩) p2) h4
      refine .same hs (.vw e hk (fun _=>?_) p2 (fun _=>zjm p1 (fun h0=>by rw[q2]; exact h0) h3 r2)) h4
      rcases p3 with ⟨p3,p4,p5⟩ | ⟨room',p4⟩
      ·exact .inl ⟨p3,.inr ⟨p4,p5⟩⟩
      ·exact .inr ⟨o,v,len,esz,room,room',r2,p4⟩
   ·exact h.elim
  ·rename_i l len esz hv
   rw[hv] at hx
   generalize x.r.ev (ρA E)=a at hx ⊢
   obtain⟨rfl,h⟩:=h
   obtain⟨rlo,nlo,q1,q2,q3⟩:=z38 hE hok.1.1.2 h
   obtain⟨rhi,nhi,q4,q5,q6⟩:=z38 hE hok.1.2 q3
   obtain⟨rmx,nmx,q7,q8,h0,h1,h2,h3,h4⟩:=z38 hE hmo q6
   simp only[Option.map_some] at q7
   rw[q1,q4,q7]
   have hmx:rmx=some nmx:=by
    cases rmx with
    | none=>unfold optR at q7; dsimp only at q7; split at q7 <;> cases q7
    | some m=>simp at q8; rw[q8]
   cases hx with
   | lst hf hrm hlen hr hl =>
    obtain⟨a2,p1,p2,p3⟩:=zea (lo:=rlo) (hi:=rhi) (m:=nmx) (by rw[q2,q5]; exact h1) (by rw[q5]; exact h2) h3 hrm
    rw[hmx]
    dsimp only
    rw[p1]
    rw[q2,q5] at p3
    refine .same hs (.lst' hf hr hl ?_ (p3.imp (fun h=>⟨h.1,h.2.1⟩) id)) h4
    rw[←Nat.add_mul]
    exact Nat.mul_le_mul_right _ (by omega)
   | lstNil=>omega
   | lstEmp=>omega
  ·exact h.elim
 | fieldAddr off x =>
  have hx:=z1b hE hok
  simp only[OpL] at h
  simp only[LOp.r,evR]
  generalize x.ev ρ=v at h hx
  generalize x.r.ev (ρA E)=a at hx ⊢
  split at h
  ·cases hx with
   | ptr e=>exact .same hs (.ptr e) h
  ·cases hx with
   | dptr e hk ha=>exact .same hs (.dptr e hk (fun q=>⟨by rw[(ha q).1]; rfl,(ha q).2⟩)) h
  ·cases hx with
   | cptr hf hr hl =>
    dsimp only
    rw[show ∀ a b c:Nat,Nat.add (a+b) c=a+(b+c) from fun a b c=>Nat.add_assoc a b c]
    exact .same hs (.cptr hf hr hl) h
  ·exact h.elim
 | field g n off x =>
  have hx:=z1b hE hok
  simp only[OpL] at h
  simp only[LOp.r,evR]
  generalize x.ev ρ=v at h hx
  generalize x.r.ev (ρA E)=a at hx ⊢
  split at h
  ·rename_i l
   cases hx with
   | agg hl =>
    dsimp only
    cases g with
    | true =>
     obtain⟨h1,h2⟩:=h
     have hll:=hl.length
     rename_i l'
     have b1:Nat.ble (Nat.add off n) l'.length=true:=Nat.ble_eq_true_of_le (show off+n≤l'.length by rw[←hll]; exact h1)
     refine .ret hs ?_
     simp only[zgj,sub1,b1]
     exact .mk (.agg ((hl.drop off).take n)) h2
    | false =>
     obtain⟨v,hv,h⟩:=h
     obtain⟨a,q1,q2⟩:=hl.get hv
     refine .ret hs ?_
     simp only[zgj]
     rw[q1]
     exact .mk q2 h
  ·exact h.elim
 | ixAddr size x i =>
  simp only[LOp.ok,Bool.and_eq_true] at hok
  have hx:=z1b hE hok.1
  have hi:=z1b hE hok.2
  simp only[OpL] at h
  simp only[LOp.r,evR]
  generalize i.ev ρ=iv at h hi
  generalize i.r.ev (ρA E)=ia at hi ⊢
  generalize x.ev ρ=v at h hx
  generalize x.r.ev (ρA E)=a at hx ⊢
  have main : ∀ {kk : IntKind} {n : Int} (v : LV) (a : AV), AR c v a → ixO G size v n (fun v => K v G) → z4m P c G K (match a, AV.int kk n with
     | .sl o v i len esz _,.int _ (.ofNat n)=>match Nat.blt n len with
      | true=>match Nat.beq esz size with
       | true=>.val (.ptr o v (Nat.add i (Nat.mul n esz))) c.H
       | false=>.no
      | false=>.no
     | _,_=>.no):=by
   clear h hx
   intro kk n v a hx h
   unfold ixO at h
   have key:∀ {o v j len esz:Nat} {room:Option Nat} {m:Nat} {y:LV},m < len→esz=size→AR c y (.ptr o v (j+m * esz))→K y G→z4m P c G K (match AV.sl o v j len esz room,AV.int kk (Int.ofNat m) with
     | .sl o v i len esz _,.int _ (.ofNat n)=>match Nat.blt n len with
      | true=>match Nat.beq esz size with
       | true=>.val (.ptr o v (Nat.add i (Nat.mul n esz))) c.H
       | false=>.no
      | false=>.no
     | _,_=>.no):=by
    intro o v j len esz room m y h1 h2 h3 h4
    subst h2
    have b1:Nat.blt m len=true:=by unfold Nat.blt; exact Nat.ble_eq_true_of_le h1
    dsimp only
    rw[b1,Nat.beq_refl]
    exact .same hs h3 h4
   split at h
   ·rename_i p k
    split at h
    ·rename_i l len esz ver st hg
     obtain⟨hk0,rfl,h1,h2,h3⟩:=h
     obtain⟨m,rfl⟩:=Int.eq_ofNat_of_zero_le h1
     cases hx with
     | @dy _ _ k' hh _ e hk ha _ =>
      obtain⟨r0,r1,r2⟩:=hs.obj p _ _ _ hg e
      have hha:=ha (by omega)
      rcases r2 with ⟨r2,r3⟩ | ⟨o,v,room,t,clen,l',r2,_⟩
      ·omega
      ·rw[hha,r2]
       refine key (room:=room) (y:=.dptr p k (m * esz)) (by omega) rfl (.dptr e hk (fun _=>⟨by rw[Nat.zero_add],len,esz,room,r2⟩)) h3
    ·exact h.elim
   ·rename_i p k lo len
    split at h
    ·rename_i l len0 esz ver st hg
     obtain⟨hk0,rfl,h1,h2,h3⟩:=h
     obtain⟨m,rfl⟩:=Int.eq_ofNat_of_zero_le h1
     cases hx with
     | @vw _ _ _ _ k' hh _ e hk ha _ _ =>
      have hkv:=(hs.obj p _ _ _ hg e).1
      rcases ha (by omega) with ⟨r3,r4⟩ | ⟨o,v,len',esz',room,room',r3,r4,r9⟩
      ·omega
      ·have e2:=e
       rw[r3] at e2
       obtain⟨_,w1,w2,w3,_⟩:=z9w hs hg e2
       subst w2 w3
       rw[r4]
       refine key (room:=room') (y:=.dptr p k ((lo+m) * esz')) (by omega) rfl (.dptr e hk (fun _=>⟨by rw[Nat.add_mul],len',esz',room,r3⟩)) h3
    ·exact h.elim
   ·rename_i l len esz
    obtain⟨rfl,h1,h2,h3⟩:=h
    obtain⟨m,rfl⟩:=Int.eq_ofNat_of_zero_le h1
    cases hx with
    | @lst _ _ _ _ _ _ rm _ hf hrm hlen hr hl =>
     refine key (room:=rm) (y:=.cptr l (m * esz)) (by omega) rfl ?_ h3
     rw[←hlen] at hr
     exact .cptr hf hr hl
    | lstNil=>omega
    | lstEmp=>omega
   ·exact h.elim
  split at h
  ·cases hi; exact main v a hx h
  ·cases hi; exact main v a hx h
  ·exact h.elim
 | ixStr x i =>
  simp only[LOp.ok,Bool.and_eq_true] at hok
  have hx:=z1b hE hok.1
  have hi:=z1b hE hok.2
  simp only[OpL] at h
  simp only[LOp.r,evR]
  generalize i.ev ρ=iv at h hi
  generalize i.r.ev (ρA E)=ia at hi ⊢
  generalize x.ev ρ=v at h hx
  generalize x.r.ev (ρA E)=a at hx ⊢
  have key:∀ {l:List UInt8} {k:IntKind} {m:Nat},m < l.length→K (.b (l.getD m 0)) G→z4m P c G K (match AV.str l.length (z1g l),AV.int k (Int.ofNat m) with
    | .str len n,.int _ (.ofNat i)=>match Nat.blt i len with
     | true=>.val (.int .u8 (Int.ofNat (Nat.mod (Nat.div n (Nat.pow 256 i)) 256))) c.H
     | false=>.no
    | _,_=>.no):=by
   intro l k m h1 h2
   have b1:Nat.blt m l.length=true:=by unfold Nat.blt; exact Nat.ble_eq_true_of_le h1
   dsimp only
   rw[b1]
   refine .same hs (.b' ?_) h2
   have:=zhe (List.getElem?_eq_getElem h1)
   show Int.ofNat (z1g l / 256 ^ m % 256)=_
   rw[this,List.getD_eq_getElem?_getD,List.getElem?_eq_getElem h1]
   rfl
  split at h
  ·rename_i l n
   obtain⟨h1,h2,h3⟩:=h
   obtain⟨m,rfl⟩:=Int.eq_ofNat_of_zero_le h1
   cases hx; cases hi
   exact key (k:=.i64) (by omega) h3
  ·rename_i l n
   obtain⟨h2,h3⟩:=h
   cases hx; cases hi
   exact key (k:=.u64) h2 h3
  ·rename_i l n
   obtain⟨h2,h3⟩:=h
   cases hx; cases hi
   exact key (k:=.u8) h2 h3
  ·exact h.elim
 | extract i x =>
  have hx:=z1b hE hok
  simp only[OpL] at h
  simp only[LOp.r,evR]
  generalize x.ev ρ=v at h hx
  generalize x.r.ev (ρA E)=a at hx ⊢
  split at h
  ·rename_i l
   cases hx with
   | tup hl =>
    dsimp only
    obtain⟨v,hv,h⟩:=h
    obtain⟨a,q1,q2⟩:=hl.get hv
    refine .ret hs ?_
    rw[q1]
    exact .mk q2 h
  ·exact h.elim
 | lenStr x =>
  have hx:=z1b hE hok
  simp only[OpL] at h
  simp only[LOp.r,evR]
  generalize x.ev ρ=v at h hx
  generalize x.r.ev (ρA E)=a at hx ⊢
  split at h
  ·cases hx; exact .same hs (.i _) h
  ·exact h.elim
 | lenSl x =>
  obtain⟨n,q1,q2⟩:=lenL_ok hs (z1b hE hok) (show lenL G (x.ev ρ) (fun n=>K (.i n) G) from h)
  simp only[LOp.r,evR]
  rcases q2 with ⟨q2,rfl⟩ | ⟨q2,rfl⟩ | ⟨o,v,i,esz,room,q2⟩
  ·rw[q2]; exact .same hs (.i 0) q1
  ·rw[q2]; exact .same hs (.i 0) q1
  ·rw[q2]; exact .same hs (.i n) q1
 | maxi mx x y =>
  simp only[LOp.ok,Bool.and_eq_true] at hok
  have hx:=z1b hE hok.1
  have hy:=z1b hE hok.2
  simp only[OpL] at h
  simp only[LOp.r,evR,List.map_cons,List.map_nil]
  generalize y.ev ρ=yv at h hy
  generalize y.r.ev (ρA E)=ya at hy ⊢
  generalize x.ev ρ=v at h hx
  generalize x.r.ev (ρA E)=a at hx ⊢
  split at h
  ·cases hx; cases hy
   dsimp only
   rw[zm9]
   exact .same hs (.i _) h
  ·cases hx; cases hy
   dsimp only
   rw[maxi_u]
   exact .same hs (.u _) h
  ·exact h.elim
 | max3 mx x y z =>
  simp only[LOp.ok,Bool.and_eq_true] at hok
  have hx:=z1b hE hok.1.1
  have hy:=z1b hE hok.1.2
  have hz:=z1b hE hok.2
  simp only[OpL] at h
  simp only[LOp.r,evR,List.map_cons,List.map_nil]
  generalize z.ev ρ=zv at h hz
  generalize z.r.ev (ρA E)=za at hz ⊢
  generalize y.ev ρ=yv at h hy
  generalize y.r.ev (ρA E)=ya at hy ⊢
  generalize x.ev ρ=v at h hx
  generalize x.r.ev (ρA E)=a at hx ⊢
  cases v <;> first | exact h.elim | skip
  cases yv <;> first | exact h.elim | skip
  cases zv <;> first | exact h.elim | skip
  cases hx; cases hy; cases hz
  dsimp only
  rw[maxi_i3]
  exact .same hs (.i _) h
 | ixAddrArr len size x i =>
  simp only[LOp.ok,Bool.and_eq_true] at hok
  have hx:=z1b hE hok.1
  have hi:=z1b hE hok.2
  simp only[OpL] at h
  simp only[LOp.r,evR]
  generalize i.ev ρ=iv at h hi
  generalize i.r.ev (ρA E)=ia at hi ⊢
  generalize x.ev ρ=v at h hx
  generalize x.r.ev (ρA E)=a at hx ⊢
  cases iv <;> first | exact h.elim | skip
  cases hi
  obtain⟨h1,h2,h⟩:=h
  rename_i n
  obtain⟨m,rfl⟩:=Int.eq_ofNat_of_zero_le h1
  have b1:Nat.blt m len=true:=by unfold Nat.blt; exact Nat.ble_eq_true_of_le (by omega)
  cases v <;> first | exact h.elim | skip
  ·cases hx with
   | ptr e =>
    show z4m P c G K (match Nat.blt m len with | true=>_ | false=>_)
    rw[b1]
    refine .same hs ?_ h
    have e0:=AR.ptr (i:=0) e
    rename_i p j o
    show AR c (.ptr p (j+m * size)) (.ptr o 0 (j+m * size))
    exact .ptr e
  ·cases hx with
   | dptr e hk ha =>
    show z4m P c G K (match Nat.blt m len with | true=>_ | false=>_)
    rw[b1]
    exact .same hs (.dptr e hk (fun q=>⟨by rw[(ha q).1]; rfl,(ha q).2⟩)) h
  ·cases hx with
   | cptr hf hr hl =>
    show z4m P c G K (match Nat.blt m len with | true=>_ | false=>_)
    rw[b1]
    refine .same hs ?_ h
    rename_i o vv jj ll
    rw[show Nat.add (jj+_) (Nat.mul m size)=jj+(_+m * size) from Nat.add_assoc _ _ _]
    exact .cptr hf hr hl
 | ixArr g len size x i =>
  simp only[LOp.ok,Bool.and_eq_true] at hok
  have hx:=z1b hE hok.1
  have hi:=z1b hE hok.2
  simp only[OpL] at h
  simp only[LOp.r,evR]
  generalize i.ev ρ=iv at h hi
  generalize i.r.ev (ρA E)=ia at hi ⊢
  generalize x.ev ρ=v at h hx
  generalize x.r.ev (ρA E)=a at hx ⊢
  cases iv <;> first | exact h.elim | skip
  cases hi
  obtain⟨h1,h2,h⟩:=h
  rename_i n
  obtain⟨m,rfl⟩:=Int.eq_ofNat_of_zero_le h1
  have b1:Nat.blt m len=true:=by unfold Nat.blt; exact Nat.ble_eq_true_of_le (by omega)
  cases v <;> first | exact h.elim | skip
  cases hx with
  | agg hl =>
   show z4m P c G K (match Nat.blt m len with | true=>_ | false=>_)
   rw[b1]
   simp only[Int.toNat_natCast] at h
   cases g with
   | true =>
    obtain⟨h1,h2⟩:=h
    have hll:=hl.length
    rename_i l'
    have b2:Nat.ble (Nat.add (Nat.mul m size) size) l'.length=true:=Nat.ble_eq_true_of_le (show m * size+size≤l'.length by rw[←hll]; exact h1)
    refine .ret hs ?_
    simp only[zgj,sub1,b2]
    exact .mk (.agg ((hl.drop _).take _)) h2
   | false =>
    obtain⟨v,hv,h⟩:=h
    obtain⟨a,q1,q2⟩:=hl.get hv
    refine .ret hs ?_
    simp only[zgj]
    show VRes c _ (_)
    rw[show Nat.mul m size=m * size from rfl,q1]
    exact .mk q2 h
 | lenArr n x =>
  simp only[OpL] at h
  simp only[LOp.r,evR]
  exact .same hs (.i _) h
 | appZ size z s x =>
  simp only[LOp.ok,Bool.and_eq_true] at hok
  have hz:=z7k c hok.1.1
  have hss:=z1b hE hok.1.2
  have hx:=z1b hE hok.2
  simp only[OpL] at h
  simp only[LOp.r,evR]
  generalize x.ev ρ=v at h hx
  generalize x.r.ev (ρA E)=a at hx ⊢
  split at h
  ·rename_i n
   obtain⟨h1,h2,h3,h4⟩:=h
   obtain⟨m,rfl⟩:=Int.eq_ofNat_of_zero_le h1
   cases hx
   have b1:Nat.ble m 1048576=true:=Nat.ble_eq_true_of_le (by omega)
   show z4m P c G K (match Nat.ble m 1048576 with
    | true=>z3x c.H size (s.r.ev (ρA E)) m (z1y (toAs z) m)
    | false=>.no)
   rw[b1]
   exact zvc hs hss (hz.rep m) (by rw[z77,h3]) h4
  ·exact h.elim
 | appG size s x =>
  simp only[LOp.ok,Bool.and_eq_true] at hok
  have hss:=z1b hE hok.1
  have hx:=z1b hE hok.2
  simp only[OpL] at h
  simp only[LOp.r,evR]
  obtain⟨n,l,l',q1,q2,q3,q4,q5⟩:=zt8 hs hx h
  rw[q1]
  have b1:Nat.ble n 1048576=true:=Nat.ble_eq_true_of_le q4
  dsimp only
  rw[b1]
  exact zvc hs hss q2 q3 q5
 | copy size d x =>
  simp only[LOp.ok,Bool.and_eq_true] at hok
  have hd:=z1b hE hok.1
  have hx:=z1b hE hok.2
  simp only[OpL] at h
  simp only[LOp.r,evR]
  obtain⟨n,l,l',q1,q2,q3,q4⟩:=zt8 hs hx h
  rw[q1]
  dsimp only
  have hmin:∀ a b:Nat,minN a b=min a b:=fun a b=>by
   unfold minN
   cases hb:Nat.ble a b with
   | true=>have:=Nat.le_of_ble_eq_true hb; simp only; omega
   | false =>
    have:¬ a≤b:=fun q=>by rw[Nat.ble_eq_true_of_le q] at hb; cases hb
    simp only; omega
  generalize d.ev ρ=v at q4 hd
  generalize d.r.ev (ρA E)=a at hd ⊢
  split at q4
  ·rename_i p k
   split at q4
   ·rename_i r len esz ver st hg
    obtain⟨hk0,rfl,h⟩:=q4
    cases hd with
    | @dy _ _ k' hh _ e hk ha _ =>
     obtain⟨r0,r1,r2⟩:=hs.obj p _ _ _ hg e
     have hha:=ha (by omega)
     rcases r2 with ⟨r2,r3⟩ | ⟨o,v,room,t,clen,r',r2,r3⟩
     ·subst r3
      have:r=[]:=List.eq_nil_of_length_eq_zero (by simpa using r1)
      subst this
      rw[hha,r2]
      dsimp only
      have hm:min n 0=0:=by omega
      rw[hm] at h
      simp only[Nat.zero_mul,List.take_zero] at h
      obtain⟨p1,p2,_⟩:=hs.upd (k':=k') (x':=hh) (ob':=.dyn (z0w [] 0 []) 0 esz ver (st+1)) (H':=c.H) hg rfl e (Nat.le_refl _) (fun _ _ _=>rfl) (fun o e'=>⟨.inl e',hs.lt o ⟨p,_,_,_,hg,rfl,e,e'⟩⟩) (Nat.le_refl _) (fun _=>rfl) (fun _=>rfl) (.inl (Nat.lt_succ_self _))
       (fun _=>⟨r0,by simp[z0w],.inl ⟨r2,rfl⟩⟩)
      exact⟨⟨c.hd.set p (k',hh),c.Fz,c.H⟩,.i (0:Nat),_,rfl,p1,p2,.i _,h⟩
     ·have hw:z4s G (.dptr p k 0) (l.take (min n len * esz)) (fun G'=>K (.i (min n len:Nat)) G'):=by
       unfold z4s
       dsimp only
       rw[hg]
       refine⟨hk0,?_,h⟩
       rw[r1,List.length_take,Nat.zero_add]
       exact Nat.le_trans (Nat.min_le_left _ _) (Nat.mul_le_mul_right _ (Nat.min_le_right _ _))
      obtain⟨o2,v2,i2,H',c',G',w1,w2,w3,w4,w5,w6⟩:=za6 hs (a:=.ptr o v 0) (.dptr e hk (fun _=>⟨rfl,len,esz,room,r2⟩)) (q2.take (min n len * esz)) hw
      cases w1
      rw[hha,r2]
      dsimp only
      rw[Nat.beq_refl,hmin]
      dsimp only
      rw[show Nat.mul (min n len) esz=min n len * esz from rfl,w2]
      exact⟨c',_,G',w3,w4,w5,.i _,w6⟩
   ·exact q4.elim
  ·rename_i p k lo len
   split at q4
   ·rename_i r len0 esz ver st hg
    obtain⟨hk0,rfl,hle,h⟩:=q4
    cases hd with
    | @vw _ _ _ _ k' hh _ e hk ha _ _ =>
     obtain⟨r0,r1,r2⟩:=hs.obj p _ _ _ hg e
     have noth:len=0→(a=.nilSl∨a=.emp∧lo≠0)→z4m P c G K (.val (.int .i64 0) c.H):=by
      intro hl0 _
      subst hl0
      have hm:min n 0=0:=by omega
      rw[hm] at h
      simp only[Nat.zero_mul,List.take_zero] at h
      have hlay:z0w r (lo * esz) []=r:=by unfold z0w; simp
      rw[hlay] at h
      obtain⟨p1,p2,_⟩:=hs.upd (k':=k') (x':=hh) (ob':=.dyn r len0 esz ver (st+1)) (H':=c.H) hg rfl e (Nat.le_refl _) (fun _ _ _=>rfl) (fun o e'=>⟨.inl e',hs.lt o ⟨p,_,_,_,hg,rfl,e,e'⟩⟩) (Nat.le_refl _) (fun _=>rfl) (fun _=>rfl) (.inl (Nat.lt_succ_self _))
       (fun hle'=>(hs.obj p _ _ _ hg e).mono hle' (fun _ _=>rfl))
      exact⟨⟨c.hd.set p (k',hh),c.Fz,c.H⟩,.i (0:Nat),_,rfl,p1,p2,.i _,h⟩
     rcases ha (by omega) with ⟨r3,r4⟩ | ⟨o,v,len',esz',room,room',r3,r4,r9⟩
     ·have:=noth r3 r4
      rcases r4 with rfl | ⟨rfl,_⟩
      ·exact this
      ·exact this
     ·have e2:=e
      rw[r3] at e2
      obtain⟨_,w1,w2,w3,_⟩:=z9w hs hg e2
      subst w2 w3
      have hw:z4s G (.dptr p k (lo * esz')) (l.take (min n len * esz')) (fun G'=>K (.i (min n len:Nat)) G'):=by
       unfold z4s
       dsimp only
       rw[hg]
       refine⟨hk0,?_,h⟩
       rw[List.length_take]
       have h1:min (min n len * esz') l.length≤len * esz':=Nat.le_trans (Nat.min_le_left _ _) (Nat.mul_le_mul_right _ (Nat.min_le_right _ _))
       rw[Nat.add_mul] at hle
       omega
      obtain⟨o2,v2,i2,H',c',G',u1,u2,u3,u4,u5,u6⟩:=za6 hs (a:=.ptr o v (lo * esz')) (.dptr e hk (fun _=>⟨rfl,len',esz',room,r3⟩)) (q2.take (min n len * esz')) hw
      cases u1
      rw[r4]
      dsimp only
      rw[Nat.beq_refl,hmin]
      dsimp only
      rw[show Nat.mul (min n len) esz'=min n len * esz' from rfl,u2]
      exact⟨c',_,G',u3,u4,u5,.i _,u6⟩
   ·exact q4.elim
  ·exact q4.elim
 | clear size z x =>
  simp only[LOp.ok,Bool.and_eq_true] at hok
  have hz:=z7k c hok.1
  have hx:=z1b hE hok.2
  simp only[OpL] at h
  simp only[LOp.r,evR]
  generalize x.ev ρ=v at h hx
  generalize x.r.ev (ρA E)=a at hx ⊢
  split at h
  ·rename_i p k lo len
   split at h
   ·rename_i r len0 esz ver st hg
    obtain⟨hk0,rfl,hzl,hle,h⟩:=h
    cases hx with
    | @vw _ _ _ _ k' hh _ e hk ha _ _ =>
     obtain⟨r0,r1,r2⟩:=hs.obj p _ _ _ hg e
     have noth:len=0→z4m P c G K (.val z23 c.H):=by
      intro hl0
      subst hl0
      have hlay:z0w r (lo * esz) (repL z 0)=r:=by unfold z0w; simp[repL]
      rw[hlay] at h
      obtain⟨p1,p2,_⟩:=hs.upd (k':=k') (x':=hh) (ob':=.dyn r len0 esz ver (st+1)) (H':=c.H) hg rfl e (Nat.le_refl _) (fun _ _ _=>rfl) (fun o e'=>⟨.inl e',hs.lt o ⟨p,_,_,_,hg,rfl,e,e'⟩⟩) (Nat.le_refl _) (fun _=>rfl) (fun _=>rfl) (.inl (Nat.lt_succ_self _))
       (fun hle'=>(hs.obj p _ _ _ hg e).mono hle' (fun _ _=>rfl))
      exact⟨⟨c.hd.set p (k',hh),c.Fz,c.H⟩,.any,_,rfl,p1,p2,.any _,h⟩
     rcases ha (by omega) with ⟨r3,r4⟩ | ⟨o,v,len',esz',room,room',r3,r4,r9⟩
     ·have:=noth r3
      rcases r4 with rfl | ⟨rfl,_⟩
      ·exact this
      ·exact this
     ·have e2:=e
      rw[r3] at e2
      obtain⟨_,w1,w2,w3,_⟩:=z9w hs hg e2
      subst w2 w3
      have hw:z4s G (.dptr p k (lo * esz')) (repL z len) (fun G'=>K .any G'):=by
       unfold z4s
       dsimp only
       rw[hg]
       refine⟨hk0,?_,h⟩
       rw[z77,hzl,←Nat.add_mul]
       exact hle
      obtain⟨o2,v2,i2,H',c',G',u1,u2,u3,u4,u5,u6⟩:=za6 hs (a:=.ptr o v (lo * esz')) (.dptr e hk (fun _=>⟨rfl,len',esz',room,r3⟩)) (hz.rep len) hw
      cases u1
      rw[r4]
      dsimp only
      rw[Nat.beq_refl]
      dsimp only
      rw[u2]
      exact⟨c',.any,G',u3,u4,u5,.any _,u6⟩
   ·exact h.elim
  ·exact h.elim
 | mkMap0=>exact zhb hs h
 | mkMap1 x =>
  have hx:=z1b hE hok
  simp only[OpL] at h
  simp only[LOp.r,evR]
  generalize x.ev ρ=v at h hx
  generalize x.r.ev (ρA E)=a at hx ⊢
  split at h
  ·cases hx; exact zhb hs h
  ·exact h.elim
 | lookup d z ok x i =>
  simp only[LOp.ok,Bool.and_eq_true] at hok
  have hz:=cst_AR c hok.1.1
  have hx:=z1b hE hok.1.2
  have hi:=z1b hE hok.2
  simp only[OpL] at h
  simp only[LOp.r,evR]
  obtain⟨es,es',q1,q2,q3,_⟩:=zul hs hx h
  rw[q1]
  dsimp only
  rcases zqm hi q2 q3 with ⟨f1,f2⟩ | ⟨v,b,f1,f2,f3⟩
  ·rw[f1]
   dsimp only
   cases ok with
   | true=>exact .same hs (.tup (.cons hz (.cons (.bool _) .nil))) f2
   | false=>exact .same hs hz f2
  ·rw[f1]
   dsimp only
   cases ok with
   | true=>exact .same hs (.tup (.cons f2 (.cons (.bool _) .nil))) f3
   | false=>exact .same hs f2 f3
 | mapUpd d m k v =>
  simp only[LOp.ok,Bool.and_eq_true] at hok
  simp only[OpL] at h
  simp only[LOp.r,evR]
  exact zsr hs (z1b hE hok.1.1) (z1b hE hok.1.2) (z1b hE hok.2) h
 | lenMap x =>
  have hx:=z1b hE hok
  simp only[OpL] at h
  simp only[LOp.r,evR]
  obtain⟨es,es',q1,q2,q3,q4⟩:=zul hs hx h
  have hlen:∀ {l:List (LV×LV×Nat)} {r:List (AV×AV×Nat)},MRs c l r→l.length=r.length:=by
   intro l r hr
   induction hr with
   | nil=>rfl
   | cons _ _ _ ih=>simp[ih]
  rcases q4 with ⟨e1,rfl⟩ | ⟨o,ck,e1,e2⟩
  ·rw[e1]
   cases q2
   exact .same hs (.i 0) q3
  ·rw[e1]
   dsimp only
   rw[e2]
   dsimp only
   rw[←hlen q2]
   exact .same hs (.i _) q3
 | slArr n size x lo hi =>
  simp only[LOp.ok,Bool.and_eq_true] at hok
  have hx:=z1b hE hok.1.1
  simp only[OpL] at h
  simp only[LOp.r,evR]
  generalize x.ev ρ=v at h hx
  generalize x.r.ev (ρA E)=a at hx ⊢
  split at h
  ·rename_i p i
   split at h
   ·rename_i l st hg
    obtain⟨h0,h⟩:=h
    obtain⟨rlo,nlo,q1,q2,q3⟩:=z38 hE hok.1.2 h
    obtain⟨rhi,nhi,q4,q5,q6⟩:=z38 hE hok.2 q3
    rw[q1,q4]
    obtain⟨h1,h2,h3⟩:=q6
    cases hx with
    | @ptr _ _ o e =>
     obtain⟨t,l',r2,r3,r4⟩:=zjp hs hg e
     obtain⟨a2,p1,p2,p3⟩:=z8g (lo:=rlo) (hi:=rhi) (o:=o) (v:=0) (i:=i) (len:=n) (esz:=size) (room:=some n) (by rw[q2,q5]; exact h1) (by rw[q5]; exact h2) (fun r e=>by cases e; exact Nat.le_refl _)
     have b1:Nat.ble (Nat.add i (Nat.mul n size)) l.length=true:=Nat.ble_eq_true_of_le h0
     simp only[optR,r2,b1]
     rw[p1]
     rw[q2,q5] at p3
     obtain⟨u1,u2⟩:=hs.freeze (st:=st+1) hg rfl (Nat.lt_succ_self _) e (rfl:idOf (.ptr o 0 0)=some o)
     have hsub:i+nlo * size+(nhi - nlo) * size≤l.length:=by
      rw[Nat.add_assoc,←Nat.add_mul]
      have:(nlo+(nhi - nlo)) * size≤n * size:=Nat.mul_le_mul_right _ (by omega)
      omega
     refine⟨⟨c.hd,fun q=>c.Fz q∨q=o,c.H⟩,_,_,rfl,u1,u2,?_,h3⟩
     rcases p3 with ⟨e1,rfl,_⟩ | ⟨room,rfl,hrm⟩
     ·rw[e1]; simp only[Nat.zero_mul,List.take_zero]; exact .lstEmp
     ·refine .lst (.inr rfl) hrm (by simp; omega) (z1m r2 r3 (Nat.le_refl _) hsub) (ARs.mono u2.le ((r4.drop _).take _))
   ·exact h.elim
  ·exact h.elim
 | callV f args =>
  simp only[LOp.ok,Bool.and_eq_true] at hok
  have hf:=z1b hE hok.1
  have ha:=zqz hE hok.2
  simp only[OpL] at h
  simp only[LOp.r,evR]
  generalize f.ev ρ=v at h hf
  generalize f.r.ev (ρA E)=a at hf ⊢
  split at h
  ·rename_i g l r
   have hcb:=h.1
   cases hf with
   | fn hl hr =>
    rename_i l' r'
    have key:zfq P c.H (.fn (.func g) l' r') ((rxs args).map (·.ev (ρA E)))=.call (.fn g) (l'++(rxs args).map (·.ev (ρA E))++r'):=by
     have k2:zbf P (.fn (.func g) l' r') ((rxs args).map (·.ev (ρA E)))=.call (.fn g) (l'++(rxs args).map (·.ev (ρA E))++r'):=by
      unfold zbf
      dsimp only
      rw[if_pos hcb.1]
     unfold zfq
     split
     ·rename_i g' e
      cases e
      rw[hcb.2]
      exact k2
     ·exact k2
    rw[key]
    exact⟨.fn g,_,rfl,(hl.append ha).append hr,h⟩
  ·rename_i p r
   cases hf with
   | yield e=>exact⟨.yield p,_,e,ha,h⟩
  ·exact h.elim
end res
end Go.Sv
namespace Go.Sv
structure RI where
 d:Option Nat
 g:Option (Nat×Bool)
 o:ROp
noncomputable def dstOk (n:Nat):Option Nat→Bool
 | none=>true
 | some d=>Nat.blt d n
noncomputable def z8h (P:Program) (n:Nat) (ops:Array Oper) (o:Oper):Option RI :=
 match dstOk n o.dst with
 | false=>none
 | true=>match z5s P o.op with
  | none=>none
  | some r=>match o.guard with
   | none=>some ⟨o.dst,none,r⟩
   | some (j,w)=>match (ops[j]?).bind (·.dst) with
    | none=>none
    | some t=>match Nat.ble t lim with
     | true=>some ⟨o.dst,some (t,w),r⟩
     | false=>none
noncomputable def zau (P:Program) (n:Nat) (ops:Array Oper):List Oper→Option (List RI)
 | []=>some []
 | o::l=>match z8h P n ops o with
  | none=>none
  | some r=>match zau P n ops l with
   | none=>none
   | some rs=>some (r::rs)
structure LI where
 d:Option Nat
 g:Option (Nat×Bool)
 o:LOp
noncomputable def LI.r (x:LI):RI:=⟨x.d,x.g,x.o.r⟩
noncomputable def lis:List LI→List RI
 | []=>[]
 | x::l=>x.r::lis l
noncomputable def grd (g:Option (Nat×Bool)) (E:Tr AV):Bool:=match g with
 | none=>true
 | some (t,w)=>match getP (z09 t) E with
  | some (.bool b)=>match b with
   | true=>w
   | false=>!w
  | _=>false
noncomputable def zhw (P:Program) (x:RI) (k:z3c) (E:Tr AV) (H:Heap):OE:=match grd x.g E with
 | false=>.ok (putE x.d z23 E) H
 | true=>match evR P (ρA E) H x.o with
  | .no=>.no
  | .val v H'=>.ok (putE x.d v E) H'
  | .call t args=>match k t args H with
   | .no=>.no
   | .ok v H'=>.ok (putE x.d v E) H'
theorem ze7 {P:Program} {n:Nat} {ops:Array Oper} {o:Oper} {x:RI} (h:z8h P n ops o=some x) (k:z3c) (E:Tr AV) (H:Heap):(z0l P n ops o).run k E H=zhw P x k E H:=by
 unfold z8h at h
 cases hd:dstOk n o.dst with
 | false=>rw[hd] at h; cases h
 | true =>
  rw[hd] at h
  dsimp only at h
  cases hr:z5s P o.op with
  | none=>rw[hr] at h; cases h
  | some r =>
   rw[hr] at h
   dsimp only at h
   have hp:∃ p,putF n o.dst=some p∧∀ a E,p.run a E=putE o.dst a E:=by
    cases hdd:o.dst with
    | none=>exact⟨_,rfl,fun _ _=>rfl⟩
    | some d =>
     rw[hdd] at hd
     have hlt:d < n:=Nat.le_of_ble_eq_true hd
     unfold putF
     dsimp only
     rw[if_pos hlt]
     exact⟨_,rfl,fun _ _=>rfl⟩
   obtain⟨p,hp1,hp2⟩:=hp
   have hx:x.d=o.dst∧x.o=r∧(z2w ops o).run E=grd x.g E:=by
    cases hg:o.guard with
    | none =>
     rw[hg] at h
     cases h
     refine⟨rfl,rfl,?_⟩
     unfold z2w
     rw[hg]
     rfl
    | some jw =>
     obtain⟨j,w⟩:=jw
     rw[hg] at h
     dsimp only at h
     cases ht:(ops[j]?).bind (·.dst) with
     | none=>rw[ht] at h; cases h
     | some t =>
      rw[ht] at h
      dsimp only at h
      cases hl:Nat.ble t lim with
      | false=>rw[hl] at h; cases h
      | true =>
       rw[hl] at h
       cases h
       refine⟨rfl,rfl,?_⟩
       unfold z2w
       rw[hg]
       dsimp only
       rw[ht]
       dsimp only
       rw[if_pos (Nat.le_of_ble_eq_true hl)]
       rfl
   obtain⟨h1,h2,h3⟩:=hx
   unfold z0l zhw
   rw[hp1]
   dsimp only
   rw[h3,h1,h2,zr1 (zpa E) hr H]
   cases grd x.g E with
   | false=>simp only[hp2]
   | true =>
    dsimp only
    cases evR P (ρA E) H r with
    | no=>rfl
    | val v H'=>simp only[hp2]
    | call t args =>
     dsimp only
     cases k t args H with
     | no=>rfl
     | ok v H'=>simp only[hp2]
theorem zrd {P:Program} {x:RI} {k k':z3c} (hk:k.le k') {E E':Tr AV} {H H':Heap} (h:zhw P x k E H=.ok E' H'):zhw P x k' E H=.ok E' H':=by
 unfold zhw at h ⊢
 cases hg:grd x.g E with
 | false=>rw[hg] at h; exact h
 | true =>
  rw[hg] at h
  dsimp only at h ⊢
  cases hr:evR P (ρA E) H x.o with
  | no=>rw[hr] at h; cases h
  | val v H2=>rw[hr] at h; exact h
  | call t args =>
   rw[hr] at h
   dsimp only at h ⊢
   cases hc:k t args H with
   | no=>rw[hc] at h; cases h
   | ok v H2=>rw[hc] at h; rw[hk _ _ _ _ _ hc]; exact h
def updL (ρ:LEnv) (d:Option Nat) (v:LV):LEnv:=match d with
 | none=>ρ
 | some d=>(d,v)::ρ
def setL (t:Nat) (v:LV):LEnv→LEnv
 | []=>[]
 | (d,x)::l=>if t=d then (d,v)::l else (d,x)::setL t v l
def brG (v:LV) (A B Z:Prop):Prop:=match v with
 | .bool t=>brL t A B
 | .tup []=>Z
 | _=>False
noncomputable def ItL (P:Program) (x:LI) (ρ:LEnv) (G:z03) (K:LEnv→z03→Prop):Prop:=match x.g with
 | none=>OpL P ρ G x.o fun v G'=>K (updL ρ x.d v) G'
 | some (t,true)=>brG (lk ρ t) (OpL P (setL t (.bool true) ρ) G x.o fun v G'=>K (updL (setL t (.bool true) ρ) x.d v) G') (K (updL (setL t (.bool false) ρ) x.d (.tup [])) G) (K (updL ρ x.d (.tup [])) G)
 | some (t,false)=>brG (lk ρ t) (K (updL (setL t (.bool true) ρ) x.d (.tup [])) G) (OpL P (setL t (.bool false) ρ) G x.o fun v G'=>K (updL (setL t (.bool false) ρ) x.d v) G') (K (updL ρ x.d (.tup [])) G)
theorem brV_bool {v:LV} {A B:Prop} (h:brV v A B):∃ b,v=.bool b∧(b=true→A)∧(b=false→B):=by
 cases v with
 | bool b=>exact⟨b,rfl,h⟩
 | _=>exact h.elim
theorem zmd {v:LV} {A B Z:Prop} (h:brG v A B Z):(∃ b,v=.bool b∧(b=true→A)∧(b=false→B))∨v=.tup []∧Z:=by
 unfold brG at h
 split at h
 ·exact .inl ⟨_,rfl,h⟩
 ·exact .inr ⟨rfl,h⟩
 ·exact h.elim
theorem ztl {P:Program} {x:LI} {t:Nat} {w:Bool} (hg:x.g=some (t,w)) {ρ:LEnv} {G:z03} {K:LEnv→z03→Prop} (h:ItL P x ρ G K) :
  (∃ b,lk ρ t=.bool b∧(b=w→OpL P (setL t (.bool w) ρ) G x.o fun v G'=>K (updL (setL t (.bool w) ρ) x.d v) G')∧(b=!w→K (updL (setL t (.bool (!w)) ρ) x.d (.tup [])) G))∨lk ρ t=.tup []∧K (updL ρ x.d (.tup [])) G:=by
 unfold ItL at h
 rw[hg] at h
 cases w with
 | true=>exact zmd h
 | false =>
  rcases zmd h with ⟨b,e,h1,h2⟩ | h
  ·exact .inl ⟨b,e,h2,h1⟩
  ·exact .inr h
noncomputable def OpsL (P:Program):List LI→LEnv→z03→(LEnv→z03→Prop)→Prop
 | [],ρ,G,K=>K ρ G
 | x::l,ρ,G,K=>ItL P x ρ G fun ρ' G'=>OpsL P l ρ' G' K
theorem EnvL.put {c:Cx} {ρ:LEnv} {E:Tr AV} (h:EnvL c ρ E) {v:LV} {a:AV} (ha:AR c v a) (d:Option Nat):EnvL c (updL ρ d v) (putE d a E):=by
 cases d with
 | none=>exact h
 | some d =>
  intro t
  show AR c (lk ((d,v)::ρ) t) ((getP (z09 t) (setP a (z09 d) E)).getD z23)
  rw[zg8,zh3]
  by_cases e:t=d
  ·rw[if_pos e,if_pos e]; exact ha
  ·rw[if_neg e,if_neg e]; exact h t
theorem zt7 (t:Nat) (v:LV):∀ (ρ:LEnv) (t':Nat),lk (setL t v ρ) t'=lk ρ t'∨(t'=t∧lk (setL t v ρ) t'=v)
 | [],_=>.inl rfl
 | (d,x)::l,t'=>by
  simp only[setL]
  by_cases h:t=d
  ·rw[if_pos h]
   simp only[zh3]
   by_cases h2:t'=d
   ·rw[if_pos h2]; exact .inr ⟨by omega,rfl⟩
   ·rw[if_neg h2,if_neg h2]; exact .inl rfl
  ·rw[if_neg h]
   simp only[zh3]
   by_cases h2:t'=d
   ·rw[if_pos h2,if_pos h2]; exact .inl rfl
   ·rw[if_neg h2,if_neg h2]; exact zt7 t v l t'
theorem EnvL.setL {c:Cx} {ρ:LEnv} {E:Tr AV} (h:EnvL c ρ E) {t:Nat} {v:LV} (ha:AR c v ((getP (z09 t) E).getD z23)):EnvL c (Sv.setL t v ρ) E:=by
 intro t'
 rcases zt7 t v ρ t' with e | ⟨rfl,e⟩
 ·rw[e]; exact h t'
 ·rw[e]; exact ha
section run
variable {P : Program} {c : Cx} {G : z03}
theorem ItL_ok (hs:HSim c G) {ρ:LEnv} {E:Tr AV} (hE:EnvL c ρ E) {x:LI} (hok:x.o.ok=true) {K:LEnv→z03→Prop} (h:ItL P x ρ G K) :
  ∃ m E' c' ρ' G',zhw P x.r (z4z P (OL P) m) E c.H=.ok E' c'.H∧HSim c' G'∧Step c G c' G'∧EnvL c' ρ' E'∧K ρ' G':=by
 have main:∀ ρ,EnvL c ρ E→(OpL P ρ G x.o fun v G'=>K (updL ρ x.d v) G')→grd x.g E=true→∃ m E' c' ρ' G',zhw P x.r (z4z P (OL P) m) E c.H=.ok E' c'.H∧HSim c' G'∧Step c G c' G'∧EnvL c' ρ' E'∧K ρ' G':=by
  intro ρ hE h hg
  have hr:=OpL_ok hs hE hok h
  unfold z4m at hr
  unfold zhw
  rw[show x.r.g=x.g from rfl,hg]
  dsimp only[LI.r]
  cases he:evR P (ρA E) c.H x.o.r with
  | no=>rw[he] at hr; exact hr.elim
  | val v1 H' =>
   rw[he] at hr
   obtain⟨c',v,G',rfl,q2,q3,q4,q5⟩:=hr
   exact⟨0,_,c',_,G',rfl,q2,q3,(hE.mono q3.le).put q4 x.d,q5⟩
  | call t1 args1 =>
   rw[he] at hr
   obtain⟨t,args,q1,q2,_,q3⟩:=hr
   obtain⟨m,v1,H',r1,c',v,G',rfl,r3,r4,r5,r6⟩:=q3 c t1 args1 hs q1 q2
   refine⟨m,_,c',_,G',?_,r3,r4,(hE.mono r4.le).put r5 x.d,r6⟩
   dsimp only
   rw[r1]
 cases hgx:x.g with
 | none =>
  unfold ItL at h
  rw[hgx] at h
  exact main ρ hE h (by rw[hgx]; rfl)
 | some tw =>
  obtain⟨t,w⟩:=tw
  have hg:=hgx
  rcases ztl hgx h with ⟨b,hb,h⟩ | ⟨hb,h⟩
  rotate_left
  ·have ht:=hE t
   rw[hb] at ht
   have hgf:grd x.g E=false:=by
    rw[hg]
    unfold grd
    dsimp only
    cases hq:getP (z09 t) E with
    | none=>rfl
    | some a=>rw[hq] at ht; cases ht; rfl
   refine⟨0,_,c,_,G,?_,hs,.refl c G,hE.put (.tup .nil) x.d,h⟩
   unfold zhw
   rw[show x.r.g=x.g from rfl,hgf]
   rfl
  ·have ht:=hE t
   rw[hb] at ht
   have hget:getP (z09 t) E=some (.bool b):=by
    cases hq:getP (z09 t) E with
    | none=>rw[hq] at ht; cases ht
    | some a=>rw[hq] at ht; cases ht; rfl
   by_cases e:b=w
   ·refine main _ (hE.setL (by rw[hget,←e]; exact .bool b)) (h.1 e) ?_
    rw[hg]
    unfold grd
    dsimp only
    rw[hget,e]
    cases w <;> rfl
   ·have e':b=!w:=by cases b <;> cases w <;> simp_all
    refine⟨0,_,c,_,G,?_,hs,.refl c G,(hE.setL (by rw[hget,←e']; exact .bool b)).put (.tup .nil) x.d,h.2 e'⟩
    have hgf:grd x.g E=false:=by
     rw[hg]
     unfold grd
     dsimp only
     rw[hget,e']
     cases w <;> rfl
    unfold zhw
    rw[show x.r.g=x.g from rfl,hgf]
    rfl
theorem zv3 {n:Nat} {ops:Array Oper}:∀ {l:List LI} {os:List Oper} {c:Cx} {G:z03} {ρ:LEnv} {E:Tr AV} {K:LEnv→z03→Prop},zau P n ops os=some (lis l)→l.all (·.o.ok)=true→HSim c G→EnvL c ρ E→OpsL P l ρ G K →
  ∃ m E' c' ρ' G',(z7t P n ops os).run (z4z P (OL P) m) E c.H=.ok E' c'.H∧HSim c' G'∧Step c G c' G'∧EnvL c' ρ' E'∧K ρ' G'
 | [],os,c,G,ρ,E,K,hr,_,hs,hE,h=>by
  cases os with
  | nil=>exact⟨0,E,c,ρ,G,rfl,hs,.refl c G,hE,h⟩
  | cons o os =>
   simp only[zau] at hr
   split at hr
   ·cases hr
   ·split at hr <;> cases hr
 | x::l,os,c,G,ρ,E,K,hr,hok,hs,hE,h=>by
  cases os with
  | nil=>cases hr
  | cons o os =>
   simp only[zau] at hr
   split at hr
   ·cases hr
   ·rename_i r hr1
    split at hr
    ·cases hr
    ·rename_i rs hr2
     simp only[lis,Option.some.injEq,List.cons.injEq] at hr
     obtain⟨rfl,rfl⟩:=hr
     simp only[List.all_cons,Bool.and_eq_true] at hok
     obtain⟨m1,E1,c1,ρ1,G1,p1,p2,p3,p4,p5⟩:=ItL_ok hs hE hok.1 (show ItL P x ρ G fun ρ' G'=>OpsL P l ρ' G' K from h)
     obtain⟨m2,E2,c2,ρ2,G2,q1,q2,q3,q4,q5⟩:=zv3 hr2 hok.2 p2 p4 p5
     refine⟨max m1 m2,E2,c2,ρ2,G2,?_,q2,.trans hs p2 p3 q3,q4,q5⟩
     simp only[z7t]
     rw[ze7 hr1,zrd (z36 (Nat.le_max_left m1 m2)) p1]
     dsimp only
     exact z9p (z36 (Nat.le_max_right m1 m2)) q1
end run
end Go.Sv
namespace Go.Sv
inductive RC where
 | skip
 | ops (l:List RI)
 | draw (l:List (RI×List (RI×Bool)))
 | seq (a b:RC)
 | cond (c:Ox) (a b:RC)
 | block (id:Nat) (c:RC)
 | loop (c:RC)
 | rangeF (g:Ox) (ps:List Nat) (a b:RC)
 | exit (id:Nat)
 | scope (c:RC)
 | label
 | ret
 | stuck
inductive LC where
 | skip
 | ops (l:List LI)
 | draw (l:List (LI×List (LI×Bool)))
 | seq (a b:LC)
 | cond (c:Lx) (a b:LC)
 | block (id:Nat) (c:LC)
 | loop (c:LC)
 | rangeF (g:Lx) (ps:List Nat) (a b:LC)
 | exit (id:Nat)
 | scope (c:LC)
 | label
 | ret
 | stuck
noncomputable def memN (t:Nat):List Nat→Bool
 | []=>false
 | a::l=>match Nat.beq t a with
  | true=>true
  | false=>memN t l
noncomputable def offOf (ops:Array Oper) (d:Option Nat) (x:DOp):Bool:=match d with
 | none=>true
 | some d=>match memN d (z87 ops x.o) with
  | true=>false
  | false=>match x.o.dst with
   | none=>true
   | some e=>!(Nat.beq d e)
noncomputable def isAl (x:DOp):Bool:=match x.c with
 | .al=>true
 | _=>false
noncomputable def zj1 (P:Program) (n:Nat) (ops:Array Oper):List DOp→Option (List (RI×Bool))
 | []=>some []
 | x::l=>match z8h P n ops x.o with
  | none=>none
  | some r=>match zj1 P n ops l with
   | none=>none
   | some rs=>some ((r,isAl x)::rs)
noncomputable def eqCls:Cls→Cls→Bool
 | .quiet,.quiet=>true
 | .rd,.rd=>true
 | .al,.al=>true
 | .ch,.ch=>true
 | _,_=>false
noncomputable def zg2 (ops:Array Oper) (x:DOp):Bool:=match x.o.dst with
 | none=>false
 | some d=>!(memN d (z87 ops x.o))
noncomputable def zld (P:Program) (n:Nat) (ops:Array Oper):List DOp→List DOp→Option (List (RI×List (RI×Bool)))
 | [],_=>some []
 | x::l,pend=>match allB (offOf ops x.o.dst) pend && eqCls x.c (cls P x.o.op) with
  | false=>none
  | true=>match z8h P n ops x.o with
   | none=>none
   | some r=>match x.c with
    | .quiet=>match zld P n ops l pend with
     | none=>none
     | some rs=>some ((r,[])::rs)
    | .rd=>match zg2 ops x with
     | false=>none
     | true=>match zld P n ops l (x::pend) with
      | none=>none
      | some rs=>some ((r,[])::rs)
    | .al=>match zg2 ops x with
     | false=>none
     | true=>match zj1 P n ops pend with
      | none=>none
      | some cs=>match zld P n ops l (x::pend) with
       | none=>none
       | some rs=>some ((r,cs)::rs)
    | .ch=>match zj1 P n ops (z07 (fun y=>!(Nat.testBit x.m y.i)) pend) with
     | none=>none
     | some cs=>match zld P n ops l (z07 (fun y=>!(Nat.testBit x.m y.i)) pend) with
      | none=>none
      | some rs=>some ((r,cs)::rs)
noncomputable def zoz (P:Program) (n:Nat) (ops:Array Oper):Option (List (RI×List (RI×Bool))) :=
 let L:=dops P ops ops.toList [] 0
 let chain:=z07 isCh L
 let ord:=zvo L chain
 match zu3 ops.size L ord with
 | true=>zld P n ops ord []
 | false=>none
noncomputable def resC (P:Program) (n:Nat):Code→Option RC
 | .skip=>some .skip
 | .region _ ops draw=>match draw with
  | true=>match zoz P n ops with
   | none=>some .stuck
   | some l=>some (.draw l)
  | false=>match zau P n ops ops.toList with
   | none=>some .stuck
   | some l=>some (.ops l)
 | .seq a b=>match resC P n a with
  | none=>none
  | some a=>match resC P n b with
   | none=>none
   | some b=>some (.seq a b)
 | .cond c a b=>match resO c with
  | none=>none
  | some c=>match resC P n a with
   | none=>none
   | some a=>match resC P n b with
    | none=>none
    | some b=>some (.cond c a b)
 | .block id c=>match resC P n c with
  | none=>none
  | some c=>some (.block id c)
 | .loop c=>match resC P n c with
  | none=>none
  | some c=>some (.loop c)
 | .rangeFunc g ps a b=>match resO g with
  | none=>none
  | some g=>match resC P n a with
   | none=>none
   | some a=>match resC P n b with
    | none=>none
    | some b=>some (.rangeF g ps.toList a b)
 | .exit id=>some (.exit id)
 | .scope c=>match resC P n c with
  | none=>none
  | some c=>some (.scope c)
 | .label _=>some .label
 | .ret=>some .ret
 | _=>some .stuck
noncomputable def rck:List (LI×Bool)→List (RI×Bool)
 | []=>[]
 | (x,b)::l=>(x.r,b)::rck l
noncomputable def rdr:List (LI×List (LI×Bool))→List (RI×List (RI×Bool))
 | []=>[]
 | (x,c)::l=>(x.r,rck c)::rdr l
noncomputable def LC.r:LC→RC
 | .skip=>.skip
 | .ops l=>.ops (lis l)
 | .draw l=>.draw (rdr l)
 | .seq a b=>.seq a.r b.r
 | .cond c a b=>.cond c.r a.r b.r
 | .block id c=>.block id c.r
 | .loop c=>.loop c.r
 | .rangeF g ps a b=>.rangeF g.r ps a.r b.r
 | .exit id=>.exit id
 | .scope c=>.scope c.r
 | .label=>.label
 | .ret=>.ret
 | .stuck=>.stuck
def LC.ok:LC→Bool
 | .ops l=>l.all (·.o.ok)
 | .draw l=>l.all fun x=>x.1.o.ok && x.2.all (·.1.o.ok)
 | .seq a b=>a.ok && b.ok
 | .cond c a b=>c.ok && a.ok && b.ok
 | .block _ c=>c.ok
 | .loop c=>c.ok
 | .rangeF g _ a b=>g.ok && a.ok && b.ok
 | .scope c=>c.ok
 | _=>true
abbrev Post:=Ex→LEnv→List Nat→z03→Prop
inductive DRs (c:Cx):List Nat→List Nat→Prop where
 | nil:DRs c [] []
 | cons {p o:Nat} {l r:List Nat} (h:c.hd[p]?=some (0,.ptr o 0 0)) (hs:DRs c l r):DRs c (p::l) (o::r)
theorem DRs.mono {c c':Cx} (h:CxLe c c'):∀ {l r:List Nat},DRs c l r→DRs c' l r
 | _,_,.nil=>.nil
 | _,_,.cons e es=>.cons (h.fix e rfl) (DRs.mono h es)
def ROr (c:Cx):Option Nat→Option Nat→Prop
 | none,none=>True
 | some p,some o=>c.hd[p]?=some (0,.ptr o 0 0)
 | _,_=>False
theorem ROr.mono {c c':Cx} (h:CxLe c c') {a b:Option Nat} (k:ROr c a b):ROr c' a b:=by
 cases a <;> cases b <;> first | exact k | exact h.fix k rfl
def W (P:Program) (f n:Nat) (s:LC) (ro:Option Nat) (ρ:LEnv) (D:List Nat) (G:z03) (Q:Post):Prop :=
 ∀ (code:Code) (c:Cx) (E:Tr AV) (D1:List Nat) (ro1:Option Nat),resC P n code=some s.r→s.ok=true→HSim c G→EnvL c ρ E→DRs c D D1→ROr c ro ro1 →
  ∃ m x E' D1' c' ρ' D' G',(z0h P f n code).run (z4z P (OL P) m) m ro1 E D1 c.H=.ok x E' D1' c'.H∧HSim c' G'∧Step c G c' G'∧EnvL c' ρ' E'∧DRs c' D' D1'∧Q x ρ' D' G'
section rules
variable {P : Program} {f n : Nat} {ro : Option Nat} {ρ : LEnv} {D : List Nat} {G : z03} {Q : Post}
theorem W.post {s:LC} {Q':Post} (h:W P f n s ro ρ D G Q) (hq:∀ x ρ D G,Q x ρ D G→Q' x ρ D G):W P f n s ro ρ D G Q':=by
 intro code c E D1 ro1 h1 h2 h3 h4 h5 h6
 obtain⟨m,x,E',D1',c',ρ',D',G',q1,q2,q3,q4,q5,q6⟩:=h code c E D1 ro1 h1 h2 h3 h4 h5 h6
 exact⟨m,x,E',D1',c',ρ',D',G',q1,q2,q3,q4,q5,hq _ _ _ _ q6⟩
theorem inv_skip {code:Code} (h:resC P n code=some .skip):code=.skip:=by
 cases code <;> simp only[resC] at h <;> first | rfl | (repeat' split at h) <;> cases h
theorem inv_ops {code:Code} {l:List RI} (h:resC P n code=some (.ops l)):∃ id ops,code=.region id ops false∧zau P n ops ops.toList=some l:=by
 cases code <;> simp only[resC] at h <;> (repeat' split at h) <;> cases h
 exact⟨_,_,rfl,‹_›⟩
theorem inv_draw {code:Code} {l:List (RI×List (RI×Bool))} (h:resC P n code=some (.draw l)):∃ id ops,code=.region id ops true∧zoz P n ops=some l:=by
 cases code <;> simp only[resC] at h <;> (repeat' split at h) <;> cases h
 exact⟨_,_,rfl,‹_›⟩
theorem inv_seq {code:Code} {a b:RC} (h:resC P n code=some (.seq a b)):∃ ca cb,code=.seq ca cb∧resC P n ca=some a∧resC P n cb=some b:=by
 cases code <;> simp only[resC] at h <;> (repeat' split at h) <;> cases h
 exact⟨_,_,rfl,‹_›,‹_›⟩
theorem inv_cond {code:Code} {x:Ox} {a b:RC} (h:resC P n code=some (.cond x a b)):∃ cx ca cb,code=.cond cx ca cb∧resO cx=some x∧resC P n ca=some a∧resC P n cb=some b:=by
 cases code <;> simp only[resC] at h <;> (repeat' split at h) <;> cases h
 exact⟨_,_,_,rfl,‹_›,‹_›,‹_›⟩
theorem zu2 {code:Code} {id:Nat} {a:RC} (h:resC P n code=some (.block id a)):∃ ca,code=.block id ca∧resC P n ca=some a:=by
 cases code <;> simp only[resC] at h <;> (repeat' split at h) <;> cases h
 exact⟨_,rfl,‹_›⟩
theorem inv_loop {code:Code} {a:RC} (h:resC P n code=some (.loop a)):∃ ca,code=.loop ca∧resC P n ca=some a:=by
 cases code <;> simp only[resC] at h <;> (repeat' split at h) <;> cases h
 exact⟨_,rfl,‹_›⟩
theorem inv_exit {code:Code} {id:Nat} (h:resC P n code=some (.exit id)):code=.exit id:=by
 cases code <;> simp only[resC] at h <;> (repeat' split at h) <;> cases h
 rfl
theorem zv4 {code:Code} {a:RC} (h:resC P n code=some (.scope a)):∃ ca,code=.scope ca∧resC P n ca=some a:=by
 cases code <;> simp only[resC] at h <;> (repeat' split at h) <;> cases h
 exact⟨_,rfl,‹_›⟩
theorem zwb {code:Code} (h:resC P n code=some .label):∃ s,code=.label s:=by
 cases code <;> simp only[resC] at h <;> (repeat' split at h) <;> cases h
 exact⟨_,rfl⟩
theorem inv_ret {code:Code} (h:resC P n code=some .ret):code=.ret:=by
 cases code <;> simp only[resC] at h <;> first | rfl | (repeat' split at h) <;> cases h
theorem W_skip (h:Q .normal ρ D G):W P f n .skip ro ρ D G Q:=by
 intro code c E D1 ro1 h1 h2 h3 h4 h5 h6
 obtain rfl:=inv_skip h1
 exact⟨0,.normal,E,D1,c,ρ,D,G,rfl,h3,.refl c G,h4,h5,h⟩
theorem W_label (h:Q .normal ρ D G):W P f n .label ro ρ D G Q:=by
 intro code c E D1 ro1 h1 h2 h3 h4 h5 h6
 obtain⟨s,rfl⟩:=zwb h1
 exact⟨0,.normal,E,D1,c,ρ,D,G,rfl,h3,.refl c G,h4,h5,h⟩
theorem W_exit {id:Nat} (h:Q (.exit id) ρ D G):W P f n (.exit id) ro ρ D G Q:=by
 intro code c E D1 ro1 h1 h2 h3 h4 h5 h6
 obtain rfl:=inv_exit h1
 exact⟨0,.exit id,E,D1,c,ρ,D,G,rfl,h3,.refl c G,h4,h5,h⟩
theorem W_ret (h:Q .ret ρ D G):W P f n .ret ro ρ D G Q:=by
 intro code c E D1 ro1 h1 h2 h3 h4 h5 h6
 obtain rfl:=inv_ret h1
 exact⟨0,.ret,E,D1,c,ρ,D,G,rfl,h3,.refl c G,h4,h5,h⟩
theorem W_scope {s:LC} (h:W P f n s ro ρ D G Q):W P f n (.scope s) ro ρ D G Q:=by
 intro code c E D1 ro1 h1 h2 h3 h4 h5 h6
 obtain⟨ca,rfl,hca⟩:=zv4 h1
 exact h ca c E D1 ro1 hca h2 h3 h4 h5 h6
theorem W_ops {l:List LI} (h:OpsL P l ρ G fun ρ' G'=>Q .normal ρ' D G'):W P f n (.ops l) ro ρ D G Q:=by
 intro code c E D1 ro1 h1 h2 h3 h4 h5 h6
 obtain⟨id,ops,rfl,hr⟩:=inv_ops h1
 obtain⟨m,E',c',ρ',G',q1,q2,q3,q4,q5⟩:=zv3 hr h2 h3 h4 h
 refine⟨m,.normal,E',D1,c',ρ',D,G',?_,q2,q3,q4,h5.mono q3.le,q5⟩
 simp only[z0h]
 rw[q1]
theorem W_seq {a b:LC} (h:W P f n a ro ρ D G fun x ρ' D' G'=>match x with
  | .normal=>W P f n b ro ρ' D' G' Q
  | x=>Q x ρ' D' G'):W P f n (.seq a b) ro ρ D G Q:=by
 intro code c E D1 ro1 h1 h2 h3 h4 h5 h6
 obtain⟨ca,cb,rfl,ha,hb⟩:=inv_seq h1
 simp only[LC.ok,Bool.and_eq_true] at h2
 obtain⟨m,x,E',D1',c',ρ',D',G',q1,q2,q3,q4,q5,q6⟩:=h ca c E D1 ro1 ha h2.1 h3 h4 h5 h6
 cases x with
 | normal =>
  obtain⟨m2,x,E2,D2,c2,ρ2,D2',G2,r1,r2,r3,r4,r5,r6⟩:=q6 cb c' E' D1' ro1 hb h2.2 q2 q4 q5 (h6.mono q3.le)
  refine⟨max m m2,x,E2,D2,c2,ρ2,D2',G2,?_,r2,.trans h3 q2 q3 r3,r4,r5,r6⟩
  simp only[z0h]
  rw[z2d (z36 (Nat.le_max_left m m2)) (Nat.le_max_left m m2) _ q1]
  exact z2d (z36 (Nat.le_max_right m m2)) (Nat.le_max_right m m2) _ r1
 | exit id =>
  refine⟨m,.exit id,E',D1',c',ρ',D',G',?_,q2,q3,q4,q5,q6⟩
  simp only[z0h]
  rw[q1]
 | ret =>
  refine⟨m,.ret,E',D1',c',ρ',D',G',?_,q2,q3,q4,q5,q6⟩
  simp only[z0h]
  rw[q1]
theorem W_cond {x:Lx} {a b:LC} {t:Bool} (hx:x.ev ρ=.bool t) (ha:t=true→W P f n a ro ρ D G Q) (hb:t=false→W P f n b ro ρ D G Q):W P f n (.cond x a b) ro ρ D G Q:=by
 intro code c E D1 ro1 h1 h2 h3 h4 h5 h6
 obtain⟨cx,ca,cb,rfl,hcx,hca,hcb⟩:=inv_cond h1
 simp only[LC.ok,Bool.and_eq_true] at h2
 have hv:=z1b h4 h2.1.1
 have hE:=z2l hcx (zpa E)
 have hvb:x.r.ev (ρA E)=.bool t:=by
  rw[hx] at hv
  generalize x.r.ev (ρA E)=w at hv
  cases hv; rfl
 rw[hvb] at hE
 cases t with
 | true =>
  obtain⟨m,x,E',D1',c',ρ',D',G',q1,q⟩:=ha rfl ca c E D1 ro1 hca h2.1.2 h3 h4 h5 h6
  refine⟨m,x,E',D1',c',ρ',D',G',?_,q⟩
  simp only[z0h]
  rw[hE]
  exact q1
 | false =>
  obtain⟨m,x,E',D1',c',ρ',D',G',q1,q⟩:=hb rfl cb c E D1 ro1 hcb h2.2 h3 h4 h5 h6
  refine⟨m,x,E',D1',c',ρ',D',G',?_,q⟩
  simp only[z0h]
  rw[hE]
  exact q1
theorem W_block {id:Nat} {s:LC} (h:W P f n s ro ρ D G fun x ρ' D' G'=>match x with
  | .exit i=>if i=id then Q .normal ρ' D' G' else Q (.exit i) ρ' D' G'
  | x=>Q x ρ' D' G'):W P f n (.block id s) ro ρ D G Q:=by
 intro code c E D1 ro1 h1 h2 h3 h4 h5 h6
 obtain⟨ca,rfl,hca⟩:=zu2 h1
 obtain⟨m,x,E',D1',c',ρ',D',G',q1,q2,q3,q4,q5,q6⟩:=h ca c E D1 ro1 hca h2 h3 h4 h5 h6
 cases x with
 | normal =>
  refine⟨m,.normal,E',D1',c',ρ',D',G',?_,q2,q3,q4,q5,q6⟩
  simp only[z0h]
  rw[q1]
 | exit i =>
  dsimp only at q6
  by_cases e:i=id
  ·rw[if_pos e] at q6
   refine⟨m,.normal,E',D1',c',ρ',D',G',?_,q2,q3,q4,q5,q6⟩
   simp only[z0h]
   rw[q1,e]
   dsimp only
   rw[Nat.beq_refl]
  ·rw[if_neg e] at q6
   refine⟨m,.exit i,E',D1',c',ρ',D',G',?_,q2,q3,q4,q5,q6⟩
   simp only[z0h]
   rw[q1]
   dsimp only
   cases hb:Nat.beq i id with
   | true=>exact absurd (Nat.eq_of_beq_eq_true hb) e
   | false=>rfl
 | ret =>
  refine⟨m,.ret,E',D1',c',ρ',D',G',?_,q2,q3,q4,q5,q6⟩
  simp only[z0h]
  rw[q1]
theorem W_loop {s:LC} (I:LEnv→List Nat→z03→Nat→Prop) {N:Nat} (h0:I ρ D G N)
  (h:∀ N ρ D G,I ρ D G N→W P f n s ro ρ D G fun x ρ' D' G'=>match x with
   | .normal=>∃ N',N' < N∧I ρ' D' G' N'
   | x=>Q x ρ' D' G'):W P f n (.loop s) ro ρ D G Q:=by
 intro code c E D1 ro1 h1 h2 h3 h4 h5 h6
 obtain⟨ca,rfl,hca⟩:=inv_loop h1
 have key:∀ N,∀ (c:Cx) (E:Tr AV) (D1:List Nat) (ρ:LEnv) (D:List Nat) (G:z03),I ρ D G N→HSim c G→EnvL c ρ E→DRs c D D1→ROr c ro ro1 →
   ∃ m m' x E' D1' c' ρ' D' G',zgx ((z0h P f n ca).run (z4z P (OL P) m) m ro1) m' E D1 c.H=.ok x E' D1' c'.H∧HSim c' G'∧Step c G c' G'∧EnvL c' ρ' E'∧DRs c' D' D1'∧Q x ρ' D' G':=by
  intro N
  induction N using Nat.strongRecOn with
  | _ N ih =>
   intro c E D1 ρ D G hI h3 h4 h5 h6
   obtain⟨m,x,E',D1',c',ρ',D',G',q1,q2,q3,q4,q5,q6⟩:=h N ρ D G hI ca c E D1 ro1 hca h2 h3 h4 h5 h6
   cases x with
   | normal =>
    obtain⟨N',hN,hI'⟩:=q6
    obtain⟨m2,m2',x,E2,D2,c2,ρ2,D2',G2,r1,r2,r3,r4,r5,r6⟩:=ih N' hN c' E' D1' ρ' D' G' hI' q2 q4 q5 (h6.mono q3.le)
    refine⟨max m m2,m2'+1,x,E2,D2,c2,ρ2,D2',G2,?_,r2,.trans h3 q2 q3 r3,r4,r5,r6⟩
    simp only[zgx]
    rw[z2d (z36 (Nat.le_max_left m m2)) (Nat.le_max_left m m2) _ q1]
    exact zan (fun _ _ _ _ _ _ _ e=>z2d (z36 (Nat.le_max_right m m2)) (Nat.le_max_right m m2) _ e) (Nat.le_refl _) r1
   | exit id =>
    refine⟨m,1,.exit id,E',D1',c',ρ',D',G',?_,q2,q3,q4,q5,q6⟩
    simp only[zgx]
    rw[q1]
   | ret =>
    refine⟨m,1,.ret,E',D1',c',ρ',D',G',?_,q2,q3,q4,q5,q6⟩
    simp only[zgx]
    rw[q1]
 obtain⟨m,m',x,E',D1',c',ρ',D',G',q1,q⟩:=key N c E D1 ρ D G h0 h3 h4 h5 h6
 refine⟨max m m',x,E',D1',c',ρ',D',G',?_,q⟩
 simp only[z0h]
 exact zan (fun _ _ _ _ _ _ _ e=>z2d (z36 (Nat.le_max_left m m')) (Nat.le_max_left m m') _ e) (Nat.le_max_right m m') q1
end rules
inductive RRes where
 | tmp (t:Nat)
 | cell1 (t:Nat)
 | cellN (t n:Nat)
noncomputable def resR (P:Program):ResultVar→Option RRes
 | .tmp t=>match Nat.ble t lim with
  | true=>some (.tmp t)
  | false=>none
 | .cell a t=>match Nat.ble a lim with
  | true=>match aggT P t,z1i P t with
   | some true,some n=>some (.cellN a n)
   | some false,some _=>some (.cell1 a)
   | _,_=>none
  | false=>none
noncomputable def resRs (P:Program):List ResultVar→Option (List RRes)
 | []=>some []
 | r::l=>match resR P r with
  | none=>none
  | some a=>match resRs P l with
   | none=>none
   | some b=>some (a::b)
structure RF where
 n:Nat
 c:RC
 rs:List RRes
noncomputable def z0f (P:Program) (f:Nat):Option RF :=
 match z6g P f && !(zdv P f) && !(zl9 P f) with
 | false=>none
 | true=>match P.funcs[f]? with
  | none=>none
  | some fn=>match fn.body with
   | none=>none
   | some b=>match Nat.ble fn.ntmps lim with
    | false=>none
    | true=>match resC P fn.ntmps b with
     | none=>none
     | some c=>match resRs P fn.results.toList with
      | none=>none
      | some rs=>some ⟨fn.ntmps,c,rs⟩
noncomputable def resL (ρ:LEnv) (G:z03):List RRes→(List LV→Prop)→Prop
 | [],K=>K []
 | r::l,K=>match r with
  | .tmp t=>resL ρ G l fun vs=>K (lk ρ t::vs)
  | .cell1 t=>zco G (lk ρ t) fun v=>resL ρ G l fun vs=>K (v::vs)
  | .cellN t n=>zcg G (lk ρ t) n fun cs=>resL ρ G l fun vs=>K (.agg cs::vs)
def oneL:List LV→LV
 | [v]=>v
 | l=>.tup l
def zgb:List LV→Nat→LEnv
 | [],_=>[]
 | v::l,i=>(i,v)::zgb l (i+1)
def zm8:List Nat→z03→(z03→Prop)→Prop
 | [],G,K=>K G
 | d::l,G,K=>match G[d]? with
  | some (.defd true)=>zm8 l (G.set d (.defd false)) K
  | _=>False
section fns
variable {P : Program}
theorem zk9 {c:Cx} {G:z03} {ρ:LEnv} {E:Tr AV} (hs:HSim c G) (hE:EnvL c ρ E):∀ {l:List ResultVar} {rs:List RRes} {K:List LV→Prop},resRs P l=some rs→resL ρ G rs K→∃ vs as,(zmb P l).run E c.H=some as∧ARs c vs as∧K vs
 | [],rs,K,h,k=>by cases h; exact⟨[],[],rfl,.nil,k⟩
 | r::l,rs,K,h,k=>by
  simp only[resRs] at h
  split at h
  ·cases h
  ·rename_i a ha
   split at h
   ·cases h
   ·rename_i b hb
    cases h
    simp only[zmb]
    cases r with
    | tmp t =>
     simp only[resR] at ha
     split at ha
     ·rename_i hl
      cases ha
      obtain⟨vs,as,q1,q2,q3⟩:=zk9 hs hE hb (show resL ρ G b (fun vs=>K (lk ρ t::vs)) from k)
      have hop:(opd (.tmp t)).run E=some ((getP (z09 t) E).getD z23):=by
       unfold opd
       dsimp only
       rw[hl]
       dsimp only
       cases getP (z09 t) E <;> rfl
      refine⟨_,_,?_,.cons (hE t) q2,q3⟩
      simp only[resF]
      rw[hop,q1]
     ·cases ha
    | cell t ty =>
     simp only[resR] at ha
     split at ha
     ·rename_i hl
      have hop:(opd (.tmp t)).run E=some ((getP (z09 t) E).getD z23):=by
       unfold opd
       dsimp only
       rw[hl]
       dsimp only
       cases getP (z09 t) E <;> rfl
      split at ha
      ·rename_i m h1 h2
       cases ha
       obtain⟨o,v,i,l',cs,p1,p2,p3,p4⟩:=zjv hs (hE t) (show zcg G (lk ρ t) m (fun cs=>resL ρ G b fun vs=>K (.agg cs::vs)) from k)
       obtain⟨vs,as,q1,q2,q3⟩:=zk9 hs hE hb p4
       refine⟨_,_,?_,.cons (.agg p3) q2,q3⟩
       simp only[Sv.resF,h1,h2]
       rw[hop,p1]
       dsimp only
       rw[p2,q1]
      ·rename_i m h1 h2
       cases ha
       obtain⟨o,v,i,w,bb,p1,p2,p3,p4⟩:=zpi hs (hE t) (show zco G (lk ρ t) (fun v=>resL ρ G b fun vs=>K (v::vs)) from k)
       obtain⟨vs,as,q1,q2,q3⟩:=zk9 hs hE hb p4
       refine⟨_,_,?_,.cons p3 q2,q3⟩
       simp only[Sv.resF,h1,h2]
       rw[hop,p1]
       dsimp only
       rw[p2]
       dsimp only
       rw[q1]
      ·cases ha
     ·cases ha
end fns
end Go.Sv
namespace Go.Sv
section fns
variable {P : Program}
theorem lk_argsL:∀ (l:List LV) (i t:Nat),lk (zgb l i) t=if i≤t∧t < i+l.length then l.getD (t - i) .any else .any
 | [],i,t=>by simp only[zgb,lk_nil,List.length_nil]; rw[if_neg (by omega)]
 | v::l,i,t=>by
  simp only[zgb,zh3,List.length_cons]
  rw[lk_argsL l (i+1) t]
  by_cases h:t=i
  ·subst h; rw[if_pos rfl,if_pos (by omega)]; simp
  ·rw[if_neg h]
   by_cases h2:i+1≤t∧t < i+1+l.length
   ·rw[if_pos h2,if_pos (by omega),show t - i=(t - (i+1))+1 from by omega]; simp
   ·rw[if_neg h2,if_neg (by omega)]
theorem EnvL.start {c:Cx} {args:List LV} {args1:List AV} (h:ARs c args args1):EnvL c (zgb args 0) (z0g args1 0 .e):=by
 intro t
 rw[lk_argsL,get_ofList,z7h]
 have hl:=h.length
 by_cases ht:t < args.length
 ·rw[if_pos (by omega),if_pos (by omega)]
  obtain⟨a,q1,q2⟩:=h.get (List.getElem?_eq_getElem ht)
  rw[Nat.sub_zero,q1,List.getD_eq_getElem?_getD,List.getElem?_eq_getElem ht]
  exact q2
 ·rw[if_neg (by omega)]; exact .any _
theorem zqr {K:z03→Prop}:∀ {D:List Nat} {D1:List Nat} {c:Cx} {G:z03},DRs c D D1→HSim c G→zm8 D G K→∃ c' G',z8f D1 c.H=some c'.H∧HSim c' G'∧Step c G c' G'∧K G'
 | [],_,c,G,.nil,hs,h=>⟨c,G,rfl,hs,.refl c G,h⟩
 | d::D,_,c,G,.cons (o:=o) e es,hs,h=>by
  simp only[zm8] at h
  split at h
  ·rename_i hg
   obtain⟨_,o',he,hget⟩:=hs.obj d _ _ _ hg e
   injection he with he
   subst he
   obtain⟨q1,q2,q3⟩:=hs.upd (k':=0) (x':=.ptr o 0 0) (ob':=.defd false) (H':=c.H.put o (.defd false)) hg rfl e (Nat.le_refl _) (fun o' _ hne=>Heap.get_put_ne _ _ (fun q=>hne (by rw[q]; rfl)))
    (fun o' e'=>by cases e'; exact⟨.inl rfl,hs.lt o ⟨d,_,_,_,hg,rfl,e,rfl⟩⟩) (Nat.le_refl _) (fun _=>rfl) (fun _=>rfl) (.inr ⟨rfl,Nat.le_refl _⟩) (fun _=>⟨rfl,o,rfl,Heap.get_put_same _ _ _⟩)
   obtain⟨c',G',r1,r2,r3,r4⟩:=zqr (es.mono q3) q1 h
   refine⟨c',G',?_,r2,.trans hs q1 q2 r3,r4⟩
   simp only[z8f]
   rw[hget]
   exact r1
  ·exact h.elim
def oneA:List AV→AV
 | [v]=>v
 | l=>.tup l
theorem zig {f:Nat} {s:LC} {n:Nat} {rs:List RRes} (hf:z0f P f=some ⟨n,s.r,rs⟩) (hok:s.ok=true) {args:List LV} (hn:args.length≤n) {G:z03} {K:LV→z03→Prop}
  (h:W P f n s none (zgb args 0) [] G fun x ρ D G'=>(match x with | .exit _=>False | _=>True)∧zm8 D G' fun G2=>resL ρ G2 rs fun vs=>K (oneL vs) G2):z0k P (.fn f) args G K:=by
 unfold z0f at hf
 split at hf
 ·cases hf
 ·rename_i hcl
  simp only[Bool.and_eq_true,Bool.not_eq_true'] at hcl
  refine⟨hcl.1,fun c t1 args1 hs ht ha=>?_⟩
  cases t1 with
  | yield o=>exact ht.elim
  | fn g =>
   obtain rfl:f=g:=ht
   split at hf
   ·cases hf
   ·rename_i fn hfn
    split at hf
    ·cases hf
    ·rename_i b hb
     split at hf
     ·cases hf
     ·rename_i hlim
      split at hf
      ·cases hf
      ·rename_i rc hrc
       split at hf
       ·cases hf
       ·rename_i rs' hrs
        cases hf
        obtain⟨m,x,E',D1',c',ρ',D',G',q1,q2,q3,q4,q5,q6,q7⟩:=h b c _ [] none hrc hok hs (EnvL.start ha) .nil trivial
        obtain⟨c2,G2,r1,r2,r3,r4⟩:=zqr q5 q2 q7
        obtain⟨vs,as,s1,s2,s3⟩:=zk9 r2 (q4.mono r3.le) hrs r4
        have hone:AR c2 (oneL vs) (oneA as):=by
         cases s2 with
         | nil=>exact .tup .nil
         | cons e es =>
          cases es with
          | nil=>exact e
          | cons e2 es2=>exact .tup (.cons e (.cons e2 es2))
        refine⟨m+1,oneA as,c2.H,?_,c2,oneL vs,G2,rfl,r2,.trans hs q2 q3 r3,hone,s3⟩
        unfold z4z
        dsimp only
        rw[OL_no hcl.2]
        dsimp only
        unfold zgg
        rw[hfn]
        dsimp only
        rw[hb]
        dsimp only
        rw[if_pos (Nat.le_of_ble_eq_true hlim)]
        dsimp only
        have hba:Nat.ble args1.length fn.ntmps=true:=Nat.ble_eq_true_of_le (by rw[←ha.length]; exact hn)
        rw[hba]
        dsimp only
        rw[q1]
        dsimp only
        cases x with
        | exit id=>exact q6.elim
        | normal =>
         dsimp only
         rw[r1]
         dsimp only
         rw[s1]
         rcases as with _ | ⟨a,_ | ⟨a2,as⟩⟩ <;> rfl
        | ret =>
         dsimp only
         rw[r1]
         dsimp only
         rw[s1]
         rcases as with _ | ⟨a,_ | ⟨a2,as⟩⟩ <;> rfl
theorem z0k.mono {t:LTgt} {args:List LV} {G:z03} {K K':LV→z03→Prop} (h:z0k P t args G K) (hk:∀ v G,K v G→K' v G):z0k P t args G K' :=
 ⟨h.1,fun c t1 args1 h1 h2 h3=>by
  obtain⟨m,v1,H',q1,c',v,G',q2,q3,q4,q5,q6⟩:=h.2 c t1 args1 h1 h2 h3
  exact⟨m,v1,H',q1,c',v,G',q2,q3,q4,q5,hk _ _ q6⟩⟩
mutual
def LV.sim (m:Nat):LV→Bool
 | .bool _ | .u _ | .b _ | .i _ | .int _ _ | .str _ | .nilPtr | .nilSl | .nilMap | .nilFn | .nilIf=>true
 | .dy j k=>k==0 && decide (j < m)
 | .agg l=>sims m l
 | .tup l=>sims m l
 | _=>false
def sims (m:Nat):List LV→Bool
 | []=>true
 | v::l=>v.sim m && sims m l
end
mutual
def subV (sel:List LV):LV→LV
 | .dy j _=>sel.getD j .any
 | .agg l=>.agg (subVs sel l)
 | .tup l=>.tup (subVs sel l)
 | v=>v
def subVs (sel:List LV):List LV→List LV
 | []=>[]
 | v::l=>subV sel v::subVs sel l
end
def notP (p:Nat):LV→Prop
 | .dy q _=>q≠p
 | _=>True
def SelR (G:z03):List LV→z03→Prop
 | [],[]=>True
 | .dy p k::s,.dyn l len esz ver st::g=>ver=0∧l.all LV.scal=true∧(∃ st',G[p]?=some (.dyn l len esz k st'))∧st=0∧(∀ x∈s,notP p x)∧SelR G s g
 | .nilSl::s,.dyn l len _ ver st::g=>ver=0∧st=0∧l=[]∧len=0∧SelR G s g
 | _,_=>False
def FnS (P:Program) (f:Nat) (args:List LV) (v0:LV) (G0:z03):Prop :=
 tgtOk P (.fn f)∧v0.sim G0.length=true∧(∀ (j:Nat) (ob:LObj),G0[j]?=some ob→∃ l len esz,ob=.dyn l len esz 0 0∧l.all LV.scal=true)∧∀ (Fz:Nat→Prop) (H:Heap) (args1:List AV),(∀ o,Fz o→o < H.next)→ARs ⟨[],Fz,H⟩ args args1 →
  ∃ m v1 hd' H',z4z P (OL P) m (.fn f) args1 H=.ok v1 H'∧HSim ⟨hd',Fz,H'⟩ G0∧AR ⟨hd',Fz,H'⟩ v0 v1∧H.next≤H'.next∧(∀ o,o < H.next→H'.get o=H.get o)∧∀ o,Own ⟨hd',Fz,H'⟩ G0 o→H.next≤o
theorem zcd {c c':Cx}:∀ {l:List LV} {r:List AV},l.all LV.scal=true→ARs c l r→ARs c' l r
 | [],_,_,.nil=>.nil
 | v::l,_,h,.cons e es=>by
  simp only[List.all_cons,Bool.and_eq_true] at h
  refine .cons ?_ (zcd h.2 es)
  cases v <;> first | (cases h.1; done) | (cases e; constructor)
theorem HSim.empty {Fz:Nat→Prop} {H:Heap} (h:∀ o,Fz o→o < H.next):HSim ⟨[],Fz,H⟩ [] :=
 ⟨rfl,h,fun o ⟨p,_,_,_,e,_⟩=>by simp at e,fun o ⟨p,_,_,_,e,_⟩=>by simp at e,fun p _ _ _ e=>by simp at e,fun p _ _ _ _ _ _ _ _ e=>by simp at e⟩
theorem zhi {c:Cx} {G:z03} (hs:HSim c G):∀ {sel:List LV} {G0:z03},SelR G sel G0→∃ hd':List (Nat×AV),hd'.length=G0.length ∧
  (∀ (j:Nat) (ob:LObj) (k:Nat) (h:AV),G0[j]?=some ob→hd'[j]?=some (k,h)→k=0∧(∀ c':Cx,c'.H=c.H→ObR c' 0 h ob)∧(∃ l len esz,ob=.dyn l len esz 0 0∧l.all LV.scal=true) ∧
   ((sel[j]?=some .nilSl∧h=.nilSl)∨∃ p k',sel[j]?=some (.dy p k')∧c.hd[p]?=some (k',h)∧(∀ o,idOf h=some o→Own c G o)∧∃ ob1,G[p]?=some ob1∧ob1.live=true)) ∧
  (∀ (i j p k q k':Nat),sel[i]?=some (.dy p k)→sel[j]?=some (.dy q k')→p=q→i=j)
 | [],[],_=>⟨[],rfl,fun j ob k h e=>by simp at e,fun i j p k q k' e=>by simp at e⟩
 | [],_::_,h=>h.elim
 | s::sel,[],h=>by cases s <;> exact h.elim
 | s::sel,ob::G0,h=>by
  cases s <;> cases ob <;> first | exact h.elim | skip
  ·rename_i l len esz ver st
   obtain⟨rfl,rfl,rfl,rfl,h⟩:=h
   obtain⟨hd',q1,q2,q3⟩:=zhi hs h
   refine⟨(0,.nilSl)::hd',by simp[q1],fun j ob k h e1 e2=>?_,fun i j p k q k' e1 e2 e3=>?_⟩
   ·cases j with
    | zero =>
     simp only[List.getElem?_cons_zero,Option.some.injEq] at e1 e2
     cases e1; cases e2
     exact⟨rfl,fun c' _=>⟨rfl,by simp,.inl ⟨rfl,rfl⟩⟩,⟨_,_,_,rfl,rfl⟩,.inl ⟨rfl,rfl⟩⟩
    | succ j=>exact q2 j ob k h (by simpa using e1) (by simpa using e2)
   ·cases i with
    | zero=>simp at e1
    | succ i=>cases j with
     | zero=>simp at e2
     | succ j=>have:=q3 i j p k q k' (by simpa using e1) (by simpa using e2) e3; omega
  ·rename_i p k l len esz ver st
   obtain⟨rfl,hsc,⟨st',hg⟩,rfl,hne,h⟩:=h
   obtain⟨hd',q1,q2,q3⟩:=zhi hs h
   have hp:p < c.hd.length:=by rw[hs.len]; exact (List.getElem?_eq_some_iff.1 hg).1
   obtain⟨k0,h0,e0⟩:∃ k h,c.hd[p]?=some (k,h):=⟨_,_,List.getElem?_eq_getElem hp⟩
   have hob:=hs.obj p _ _ _ hg e0
   have hk:=hob.1
   subst hk
   have mem_ne:∀ (j q k':Nat),sel[j]?=some (.dy q k')→q≠p:=fun j q k' e=>hne _ (List.mem_of_getElem? e)
   refine⟨(0,h0)::hd',by simp[q1],fun j ob k h e1 e2=>?_,fun i j p' k q k' e1 e2 e3=>?_⟩
   ·cases j with
    | zero =>
     simp only[List.getElem?_cons_zero,Option.some.injEq] at e1 e2
     cases e1; cases e2
     refine⟨rfl,fun c' hc'=>?_,⟨_,_,_,rfl,hsc⟩,.inr ⟨p,_,rfl,e0,fun o ho=>⟨p,_,_,_,hg,rfl,e0,ho⟩,_,hg,rfl⟩⟩
     obtain⟨_,r1,r2⟩:=hob
     refine⟨rfl,r1,?_⟩
     rcases r2 with r2 | ⟨o,v,room,t,clen,l',r2,r3,r4,r5,r6,r7⟩
     ·exact .inl r2
     ·exact .inr ⟨o,v,room,t,clen,l',r2,by rw[hc']; exact r3,r4,r5,zcd hsc r6,r7⟩
    | succ j=>exact q2 j ob k h (by simpa using e1) (by simpa using e2)
   ·cases i with
    | zero =>
     simp only[List.getElem?_cons_zero,Option.some.injEq] at e1
     cases e1
     cases j with
     | zero=>rfl
     | succ j=>exact absurd e3.symm (mem_ne j q k' (by simpa using e2))
    | succ i=>cases j with
     | zero =>
      simp only[List.getElem?_cons_zero,Option.some.injEq] at e2
      cases e2
      exact absurd e3 (mem_ne i p' k (by simpa using e1))
     | succ j=>have:=q3 i j p' k q k' (by simpa using e1) (by simpa using e2) e3; omega
mutual
theorem sub_AR {c c':Cx} {sel:List LV} (hsel:∀ (j:Nat) (v:LV) (a:AV),sel[j]?=some v→AR c v a→AR c' (.dy j 0) a) (v:LV) (a:AV) (hsim:v.sim sel.length=true) (h:AR c (subV sel v) a):AR c' v a:=by
 cases v with
 | dy j k =>
  simp only[LV.sim,Bool.and_eq_true,beq_iff_eq,decide_eq_true_eq] at hsim
  obtain⟨rfl,hjl⟩:=hsim
  refine hsel j _ a (List.getElem?_eq_getElem hjl) ?_
  unfold subV at h
  rwa [List.getD_eq_getElem?_getD,List.getElem?_eq_getElem hjl] at h
 | agg l =>
  simp only[LV.sim] at hsim
  simp only[subV] at h
  cases h with
  | agg h=>exact .agg (sub_ARs hsel l _ hsim h)
 | tup l =>
  simp only[LV.sim] at hsim
  simp only[subV] at h
  cases h with
  | tup h=>exact .tup (sub_ARs hsel l _ hsim h)
 | _=>first | (simp only[LV.sim] at hsim; cases hsim; done) | (simp only[subV] at h; cases h; constructor)
termination_by SizeOf.sizeOf v
theorem sub_ARs {c c':Cx} {sel:List LV} (hsel:∀ (j:Nat) (v:LV) (a:AV),sel[j]?=some v→AR c v a→AR c' (.dy j 0) a) (l:List LV) (r:List AV) (hsim:sims sel.length l=true) (h:ARs c (subVs sel l) r):ARs c' l r:=by
 cases l with
 | nil=>simp only[subVs] at h; cases h; exact .nil
 | cons v l =>
  simp only[sims,Bool.and_eq_true] at hsim
  simp only[subVs] at h
  cases h with
  | cons e es=>exact .cons (sub_AR hsel v _ hsim.1 e) (sub_ARs hsel l _ hsim.2 es)
termination_by SizeOf.sizeOf l
end
theorem FnS.mk {f:Nat} {args:List LV} {v0:LV} {G0:z03} (hsim:v0.sim G0.length=true) (h:z0k P (.fn f) args [] fun v G=>∃ sel,v=subV sel v0∧sel.length=G0.length∧SelR G sel G0) (hG:∀ (j:Nat) (ob:LObj),G0[j]?=some ob→∃ l len esz,ob=.dyn l len esz 0 0∧l.all LV.scal=true):FnS P f args v0 G0:=by
 refine⟨h.1,hsim,hG,fun Fz H args1 hfz ha=>?_⟩
 obtain⟨m,v1,H',q1,c1,v,G,rfl,q3,q4,q5,sel,rfl,hlen,hr⟩:=h.2 ⟨[],Fz,H⟩ (.fn f) args1 (.empty hfz) rfl ha
 obtain⟨hd',r1,r2,r3⟩:=zhi q3 hr
 have hd_of:∀ (j:Nat) (ob:LObj),G0[j]?=some ob→∃ k h,hd'[j]?=some (k,h):=fun j ob e=>⟨_,_,List.getElem?_eq_getElem (by rw[r1]; exact (List.getElem?_eq_some_iff.1 e).1)⟩
 have hown:∀ o,Own ⟨hd',Fz,c1.H⟩ G0 o→Own c1 G o:=by
  rintro o ⟨j,ob,k,h,e1,e2,e3,e4⟩
  obtain⟨_,_,_,s4⟩:=r2 j ob k h e1 e3
  rcases s4 with ⟨_,s4⟩ | ⟨p,k',_,_,s6,_⟩
  ·rw[s4] at e4; cases e4
  ·exact s6 o e4
 have hnew:∀ o,Own ⟨hd',Fz,c1.H⟩ G0 o→H.next≤o:=fun o ho=>by
  rcases q4.new o (hown o ho) with ⟨p,_,_,_,e,_⟩ | h
  ·simp at e
  ·exact h
 have hno:∀ o,¬ Own ⟨[],Fz,H⟩ [] o:=fun o ⟨p,_,_,_,e,_⟩=>by simp at e
 have hs':HSim ⟨hd',Fz,c1.H⟩ G0:=by
  refine⟨r1,fun o ho=>Nat.lt_of_lt_of_le (hfz o ho) q4.nx,fun o ho=>q3.lt o (hown o ho),fun o ho hf=>?_,fun j ob k h e1 e2=>?_,fun i j ob ob' k h k' h' o e1 e2 e3 e4 e5 e6 e7 e8=>?_⟩
  ·have:=hnew o ho; have:=hfz o hf; omega
  ·obtain⟨s1,s2,_⟩:=r2 j ob k h e1 e2
   rw[s1]; exact s2 _ rfl
  ·obtain⟨_,_,_,s4⟩:=r2 i ob k h e1 e5
   obtain⟨_,_,_,t4⟩:=r2 j ob' k' h' e2 e6
   rcases s4 with ⟨_,s4⟩ | ⟨p,kp,s5,s6,_,o1,g1,g2⟩
   ·rw[s4] at e7; cases e7
   ·rcases t4 with ⟨_,t4⟩ | ⟨q,kq,t5,t6,_,o2,g3,g4⟩
    ·rw[t4] at e8; cases e8
    ·refine r3 i j p kp q kq s5 t5 ?_
     exact q3.excl p q o1 o2 kp h kq h' o g1 g3 g2 g4 s6 t6 e7 e8
 refine⟨m,v1,hd',c1.H,q1,hs',?_,q4.nx,fun o ho=>q4.frame o ho (hno o),hnew⟩
 refine sub_AR (c:=c1) (fun j v a e1 e2=>?_) v0 v1 (by rw[hlen]; exact hsim) q5
 have hj:j < G0.length:=by rw[←hlen]; exact (List.getElem?_eq_some_iff.1 e1).1
 obtain⟨k,h,e3⟩:=hd_of j _ (List.getElem?_eq_getElem hj)
 obtain⟨rfl,_,_,s4⟩:=r2 j _ k h (List.getElem?_eq_getElem hj) e3
 rcases s4 with ⟨s4,s5⟩ | ⟨p,k',s4,s5,_⟩
 ·rw[e1] at s4; cases s4; cases e2
  exact .dy e3 (Nat.le_refl _) (fun _=>s5.symm) rfl
 ·rw[e1] at s4; cases s4
  cases e2 with
  | dy f1 f2 f3 f4 =>
   rw[s5] at f1
   cases f1
   exact .dy e3 (Nat.le_refl _) (fun _=>f3 rfl) f4
end fns
end Go.Sv
namespace Go.Sv
noncomputable def tgtL (ρ:LEnv) (G:z03):LOp→Option (Option Nat)
 | .load1 x | .loadN _ x=>match x.ev ρ with
  | .ptr p _=>some (some p)
  | .dptr p k _=>match G[p]? with
   | some (.dyn _ _ _ ver _)=>if k=ver then some (some p) else none
   | _=>none
  | .cptr _ _=>some none
  | _=>none
 | .cvStr x=>match x.ev ρ with
  | .nilSl=>some none
  | .lst _ _ _=>some none
  | .dy p k=>match G[p]? with
   | some (.dyn _ _ _ ver _)=>if k=ver then some (some p) else none
   | _=>none
  | _=>none
 | _=>none
def zmo (G G':z03) (p:Nat):Prop:=match G[p]?,G'[p]? with
 | some a,some b=>a.stp=true∧a.st=b.st
 | _,_=>False
noncomputable def ckC (ρ:LEnv) (G G':z03) (x:LI×Bool):Prop:=match x.2 with
 | false=>match tgtL ρ G x.1.o with
  | some none=>True
  | some (some p)=>zmo G G' p
  | none=>False
 | true=>match x.1.d with
  | none=>False
  | some d=>match lk ρ d with
   | .ptr p _=>zmo G G' p
   | .dy p k=>(match G[p]? with
    | some (.dyn _ _ _ ver _)=>k=ver
    | _=>False)∧zmo G G' p
   | _=>False
noncomputable def ckL (ρ:LEnv) (G G':z03) (x:LI×Bool):Prop:=match x.1.g with
 | none=>ckC ρ G G' x
 | some (t,w)=>match lk ρ t with
  | .bool b=>b=w→ckC ρ G G' x
  | _=>ckC ρ G G' x
noncomputable def cksL (ρ:LEnv) (G G':z03):List (LI×Bool)→Prop
 | []=>True
 | x::l=>ckL ρ G G' x∧cksL ρ G G' l
noncomputable def DrL (P:Program):List (LI×List (LI×Bool))→LEnv→z03→(LEnv→z03→Prop)→Prop
 | [],ρ,G,K=>K ρ G
 | (x,cs)::l,ρ,G,K=>ItL P x ρ G fun ρ' G'=>cksL ρ G G' cs∧DrL P l ρ' G' K
section al
variable {P : Program}
theorem zst {v:AV} {id n:Nat} (h:idOf v=some id):reId id (reId n v)=v:=by
 cases v <;> first | (cases h; done) | (cases h; rfl)
theorem zik {H H1:Heap} {l:List AV} {v:AV} (h:z47 H l=.val v H1):∃ ob,H1=H.push ob∧idOf v=some H.next∧∀ H2,z47 H2 l=.val (reId H2.next v) (H2.push ob):=by
 unfold z47 newObj at h
 cases h
 exact⟨_,rfl,rfl,fun H2=>rfl⟩
theorem znb {H H1:Heap} {l:List AV} {a b:Nat} {r:Option Nat} {v:AV} (h:(match newObj H l with
  | some (o,H')=>OR.val (.sl o 0 0 a b r) H'
  | none=>.no)=.val v H1):∃ ob,H1=H.push ob∧idOf v=some H.next∧∀ H2,(match newObj H2 l with
  | some (o,H')=>OR.val (.sl o 0 0 a b r) H'
  | none=>.no)=.val (reId H2.next v) (H2.push ob):=by
 unfold newObj at h
 cases h
 exact⟨_,rfl,rfl,fun H2=>rfl⟩
theorem al_any {o:Op} (hc:cls P o=.al) {E:Tr AV} {H H1:Heap} {v:AV} (h:(z0i P o).run E H=.val v H1):∃ ob,H1=H.push ob∧idOf v=some H.next∧∀ H2,(z0i P o).run E H2=.val (reId H2.next v) (H2.push ob):=by
 cases o with
 | alloc t =>
  simp only[z0i] at h ⊢
  split at h
  ·exact zik h
  ·cases h
 | box t x =>
  simp only[z0i,z14] at h ⊢
  cases hx:(opd x).run E with
  | none=>rw[hx] at h; cases h
  | some a =>
   rw[hx] at h
   dsimp only at h ⊢
   cases hl:a.cells with
   | none=>rw[hl] at h; cases h
   | some l=>rw[hl] at h; exact zik h
 | buildSlice t len parts =>
  simp only[z0i,z3n] at h ⊢
  split at h
  ·split at h
   ·cases h
   ·split at h
    ·cases h
    ·rename_i z hz
     by_cases hb:len * ‹Nat›≤2 ^ 20∧0 < ‹Nat›
     ·rw[if_pos hb] at h ⊢
      split at h
      ·cases h
      ·dsimp only at h ⊢
       split at h
       ·exact znb h
       ·cases h
     ·rw[if_neg hb] at h; cases h
  ·cases h
 | makeSlice t l c =>
  simp only[z0i,z7f] at h ⊢
  split at h
  ·split at h
   ·cases h
   ·split at h
    ·cases h
    ·split at h
     ·rename_i i hi z hz hb
      simp only[if_pos hb]
      simp only[z1z] at h ⊢
      cases hl:(opd l).run E with
      | none=>rw[hl] at h; cases h
      | some a =>
       rw[hl] at h
       cases hcc:(opd c).run E with
       | none=>rw[hcc] at h; cases h
       | some b =>
        rw[hcc] at h
        dsimp only at h ⊢
        split at h
        ·rename_i n m
         cases h1:Nat.ble n m with
         | false=>rw[h1] at h; cases h
         | true =>
          rw[h1] at h
          cases h2:Nat.ble m 1048576 with
          | false=>rw[h2] at h; cases h
          | true=>rw[h2] at h; exact znb h
        ·cases h
     ·cases h
  ·cases h
 | makeMap t r =>
  have pm:∀ {v:AV} {H1:Heap},z52 H=.val v H1→∃ ob,H1=H.push ob∧idOf v=some H.next∧∀ H2,z52 H2=.val (reId H2.next v) (H2.push ob):=fun h=>by
   unfold z52 at h
   cases h
   exact⟨_,rfl,rfl,fun H2=>rfl⟩
  simp only[z0i,zef] at h ⊢
  split at h
  ·exact pm h
  ·rename_i x
   split at h
   ·simp only[z14] at h ⊢
    cases hx:(opd x).run E with
    | none=>rw[hx] at h; cases h
    | some a =>
     rw[hx] at h
     dsimp only at h ⊢
     split at h
     ·exact pm h
     ·cases h
   ·cases h
 | _ =>
  exfalso
  simp only[cls] at hc
  first
   | (cases hc; done)
   | (split at hc <;> first | (cases hc; done) | (split at hc <;> cases hc))
   | (simp only[zdd] at hc; split at hc <;> first | (cases hc; done) | (split at hc <;> first | (cases hc; done) | (split at hc <;> cases hc)))
end al
section draw
variable {P : Program} {n : Nat} {ops : Array Oper}
def z85 (P:Program) (ops:Array Oper) (x:DOp) (E:Tr AV) (H:Heap):Prop:=match x.c with
 | .rd=>(z2w ops x.o).run E=true→∃ d v,x.o.dst=some d∧getP (z09 d) E=some v∧(z0i P x.o.op).run E H=.val v H
 | .al=>(z2w ops x.o).run E=true→∃ d v id ob,x.o.dst=some d∧getP (z09 d) E=some v∧idOf v=some id∧H.get id=some ob∧∀ H2,(z0i P x.o.op).run E H2=.val (reId H2.next v) (H2.push ob)
 | _=>True
theorem z8n {x:DOp} {E:Tr AV} {H:Heap} (h:z85 P ops x E H) (hc:x.c=.rd∨x.c=.al) (hd:zg2 ops x=true):(z6b P ops x).run E H=true:=by
 unfold z6b
 cases hdst:x.o.dst with
 | none=>unfold zg2 at hd; rw[hdst] at hd; cases hd
 | some d =>
  dsimp only
  cases hg:(z2w ops x.o).run E with
  | false=>rfl
  | true =>
   dsimp only
   unfold z85 at h
   rcases hc with hc | hc
   ·rw[hc] at h
    obtain⟨d',v,h1,h2,h3⟩:=h hg
    rw[hdst] at h1; cases h1
    rw[h2,h3,hc]
    dsimp only
    unfold zcw
    split
    ·rfl
    ·exact @decide_eq_true _ (Classical.propDecidable _) rfl
   ·rw[hc] at h
    obtain⟨d',v,id,ob,h1,h2,h3,h4,h5⟩:=h hg
    rw[hdst] at h1; cases h1
    rw[h2,h5 H,hc]
    dsimp only
    unfold zvh
    rw[h3]
    dsimp only
    have e1:zcw (eqAV 30 v (reId id (reId H.next v))) v (reId id (reId H.next v))=true:=by
     unfold zcw
     split
     ·rfl
     ·exact @decide_eq_true _ (Classical.propDecidable _) (zst h3).symm
    rw[e1,h4,Heap.get_push_same]
    dsimp only
    unfold zcw
    split
    ·rfl
    ·exact @decide_eq_true _ (Classical.propDecidable _) rfl
theorem zcq {t:Nat}:∀ {l:List Nat},memN t l=false→t ∉ l
 | [],_=>by simp
 | a::l,h=>by
  simp only[memN] at h
  cases hb:Nat.beq t a with
  | true=>rw[hb] at h; cases h
  | false =>
   rw[hb] at h
   intro hm
   rcases List.mem_cons.1 hm with rfl | hm
   ·rw[Nat.beq_refl] at hb; cases hb
   ·exact zcq h hm
theorem off_same {x:DOp} {d:Option Nat} (h:offOf ops d x=true) (v:AV) (E:Tr AV):Same (z87 ops x.o) (putE d v E) E∧∀ e,x.o.dst=some e→getP (z09 e) (putE d v E)=getP (z09 e) E:=by
 cases d with
 | none=>exact⟨fun t _ _=>rfl,fun e _=>rfl⟩
 | some d =>
  unfold offOf at h
  dsimp only at h
  cases hm:memN d (z87 ops x.o) with
  | true=>rw[hm] at h; cases h
  | false =>
   rw[hm] at h
   dsimp only at h
   refine⟨fun t ht _=>?_,fun e he=>?_⟩
   ·show getP (z09 t) (setP v (z09 d) E)=_
    rw[z4v (fun q=>zcq hm (by rw[←q]; exact ht))]
   ·rw[he] at h
    dsimp only at h
    show getP (z09 e) (setP v (z09 d) E)=_
    rw[z4v (fun q=>by rw[q,Nat.beq_refl] at h; cases h)]
theorem z85.put {x:DOp} {E:Tr AV} {H:Heap} (h:z85 P ops x E H) {d:Option Nat} (ho:offOf ops d x=true) (v:AV):z85 P ops x (putE d v E) H:=by
 obtain⟨h1,h2⟩:=off_same ho v E
 have hg:=z3m (o:=x.o) h1
 have hc:∀ H2,(z0i P x.o.op).run (putE d v E) H2=(z0i P x.o.op).run E H2:=fun H2=>z7o h1
 unfold z85 at h ⊢
 cases hx:x.c with
 | rd =>
  rw[hx] at h
  intro g
  obtain⟨d',w,k1,k2,k3⟩:=h (by rw[←hg]; exact g)
  exact⟨d',w,k1,by rw[h2 d' k1]; exact k2,by rw[hc]; exact k3⟩
 | al =>
  rw[hx] at h
  intro g
  obtain⟨d',w,id,ob,k1,k2,k3,k4,k5⟩:=h (by rw[←hg]; exact g)
  exact⟨d',w,id,ob,k1,by rw[h2 d' k1]; exact k2,k3,k4,fun H2=>by rw[hc]; exact k5 H2⟩
 | quiet=>trivial
 | ch=>trivial
theorem zu0 {x:DOp} {r:RI} (hr:z8h P n ops x.o=some r) (E:Tr AV):(z2w ops x.o).run E=grd r.g E∧z5s P x.o.op=some r.o∧r.d=x.o.dst:=by
 unfold z8h at hr
 split at hr
 ·cases hr
 ·split at hr
  ·cases hr
  ·rename_i ro hro
   split at hr
   ·rename_i hg
    cases hr
    refine⟨?_,hro,rfl⟩
    unfold z2w; rw[hg]; rfl
   ·rename_i j w hg
    split at hr
    ·cases hr
    ·rename_i t ht
     split at hr
     ·rename_i hl
      cases hr
      refine⟨?_,hro,rfl⟩
      unfold z2w
      rw[hg]
      dsimp only
      rw[ht]
      dsimp only
      rw[if_pos (Nat.le_of_ble_eq_true hl)]
      rfl
     ·cases hr
theorem z85.keep {x:DOp} {li:LI} (hr:z8h P n ops x.o=some li.r) (hok:li.o.ok=true) {c c1:Cx} {G G1:z03} {ρ:LEnv} {E:Tr AV} (hs:HSim c G) (hE:EnvL c ρ E) (st:Step c G c1 G1) (hck:ckL ρ G G1 (li,isAl x))
  (h:z85 P ops x E c.H):z85 P ops x E c1.H:=by
 have hgr:∀ {p k:Nat} {a:AV} {o:Nat},zmo G G1 p→c.hd[p]?=some (k,a)→idOf a=some o→c1.H.get o=c.H.get o:=by
  intro p k a o hk e1 e2
  unfold zmo at hk
  split at hk
  ·rename_i a1 b1 g1 g2
   exact (st.st p a1 b1 k a o g1 g2 e1 e2 hk.1 hk.2).2.1
  ·exact hk.elim
 obtain⟨g1,g2,g3⟩:=zu0 hr E
 have hcore:(z2w ops x.o).run E=true→ckC ρ G G1 (li,isAl x):=by
  intro g
  rw[g1] at g
  unfold ckL at hck
  dsimp only at hck
  split at hck
  ·exact hck
  ·rename_i t w hg
   split at hck
   ·rename_i b hb
    refine hck ?_
    have ht:=hE t
    rw[hb] at ht
    rw[show li.r.g=li.g from rfl,hg] at g
    unfold grd at g
    dsimp only at g
    cases hq:getP (z09 t) E with
    | none=>rw[hq] at g; cases g
    | some a =>
     rw[hq] at g ht
     cases ht
     cases b <;> cases w <;> first | rfl | cases g
   ·exact hck
 unfold z85 at h ⊢
 cases hx:x.c with
 | quiet=>trivial
 | ch=>trivial
 | rd =>
  rw[hx] at h
  intro g
  have hc:=hcore g
  obtain⟨d,v,k1,k2,k3⟩:=h g
  refine⟨d,v,k1,k2,?_⟩
  rw[zr1 (zpa E) g2] at k3 ⊢
  have hal:isAl x=false:=by unfold isAl; rw[hx]
  unfold ckC at hc
  rw[hal] at hc
  dsimp only at hc
  have ptr1:∀ {y:Lx},y.ok=true→∀ m,(match y.ev ρ with
    | .ptr p _=>some (some p)
    | .dptr p k _=>(match G[p]? with
     | some (.dyn _ _ _ ver _)=>if k=ver then some (some p) else none
     | _=>none)
    | .cptr _ _=>some none
    | _=>(none:Option (Option Nat)))=some m→(∀ p,m=some p→zmo G G1 p)→∃ o v i,y.r.ev (ρA E)=.ptr o v i∧c1.H.get o=c.H.get o:=by
   intro y hy m hm hk
   have hv:=z1b hE hy
   generalize y.ev ρ=w at hm hv
   generalize y.r.ev (ρA E)=b at hv ⊢
   split at hm
   ·rename_i p i
    cases hm
    cases hv with
    | ptr e=>exact⟨_,_,_,rfl,hgr (hk p rfl) e rfl⟩
   ·rename_i p k i
    split at hm
    ·rename_i l len esz ver stp hg
     by_cases hkv:k=ver
     ·rw[if_pos hkv] at hm
      cases hm
      cases hv with
      | @dptr _ _ _ k' o v j hh e hk' ha =>
       have:=(hs.obj p _ _ _ hg e).1
       obtain⟨_,len',esz',room,rfl⟩:=ha (by omega)
       exact⟨o,v,j,rfl,hgr (hk p rfl) e rfl⟩
     ·rw[if_neg hkv] at hm; cases hm
    ·cases hm
   ·cases hm
    cases hv with
    | cptr hf hr hl=>exact⟨_,_,_,rfl,(st.le.fz _ hf).2⟩
   ·cases hm
  have fin:∀ m,tgtL ρ G li.o=some m→(∀ p,m=some p→zmo G G1 p)→evR P (ρA E) c1.H li.r.o=.val v c1.H:=by
   intro m hm hk
   have k3':evR P (ρA E) c.H li.o.r=.val v c.H:=k3
   show evR P (ρA E) c1.H li.o.r=_
   unfold tgtL at hm
   split at hm
   ·rename_i y ho
    rw[ho] at k3' hok ⊢
    obtain⟨o,w,i,q1,q2⟩:=ptr1 hok m hm hk
    simp only[LOp.r,evR] at k3' ⊢
    rw[q1] at k3' ⊢
    dsimp only at k3' ⊢
    rw[z3e q2]
    split at k3'
    ·cases k3'; rfl
    ·cases k3'
   ·rename_i nn y ho
    rw[ho] at k3' hok ⊢
    obtain⟨o,w,i,q1,q2⟩:=ptr1 hok m hm hk
    simp only[LOp.r,evR] at k3' ⊢
    rw[q1] at k3' ⊢
    dsimp only at k3' ⊢
    rw[z3e q2]
    split at k3'
    ·cases k3'; rfl
    ·cases k3'
   ·rename_i y ho
    rw[ho] at k3' hok ⊢
    have hv:=z1b hE hok
    simp only[LOp.r,evR] at k3' ⊢
    generalize y.ev ρ=w at hm hv
    generalize y.r.ev (ρA E)=b at hv k3' ⊢
    have done:(∀ o v i len esz room,b=.sl o v i len esz room→c1.H.get o=c.H.get o)→(match b with
      | .nilSl=>OR.val (.str 0 0) c1.H
      | .sl o v i len 1 _=>match z1n c1.H o v i len with
       | some l=>match zah.bytesA l with
        | some n=>.val (.str len n) c1.H
        | none=>.no
       | none=>.no
      | _=>.no)=.val v c1.H:=by
     intro hh
     split at k3'
     ·cases k3'; rfl
     ·rename_i o v2 i len room
      have e:=hh o v2 i len 1 room rfl
      show (match z1n c1.H o v2 i len with
       | some l=>match zah.bytesA l with
        | some n=>OR.val (.str len n) c1.H
        | none=>.no
       | none=>.no)=.val v c1.H
      rw[z3e e]
      split at k3'
      ·rename_i hr0
       split at k3'
       ·rename_i hb; cases k3'; rw[hr0]; dsimp only; rw[hb]
       ·cases k3'
      ·cases k3'
     ·cases k3'
    split at hm
    ·cases hv; exact done (fun _ _ _ _ _ _ e=>by cases e)
    ·cases hm
     cases hv with
     | lst hf hrm hlen hr hl=>exact done (fun _ _ _ _ _ _ e=>by cases e; exact (st.le.fz _ hf).2)
     | lstNil=>exact done (fun _ _ _ _ _ _ e=>by cases e)
     | lstEmp=>exact done (fun _ _ _ _ _ _ e=>by cases e)
    ·rename_i p k
     split at hm
     ·rename_i l len esz ver stp hg
      by_cases hkv:k=ver
      ·rw[if_pos hkv] at hm
       cases hm
       cases hv with
       | @dy _ _ k' hh _ e hk' ha hsl =>
        have:=(hs.obj p _ _ _ hg e).1
        have hha:=ha (by omega)
        exact done (fun o v i len esz room eb=>hgr (hk p rfl) e (by rw[←hha,eb]; rfl))
      ·rw[if_neg hkv] at hm; cases hm
     ·cases hm
    ·cases hm
   ·cases hm
  split at hc
  ·rename_i hm; exact fin none hm (fun p e=>by cases e)
  ·rename_i p hm; exact fin (some p) hm (fun p' e=>by cases e; exact hc)
  ·exact hc.elim
 | al =>
  rw[hx] at h
  intro g
  have hc:=hcore g
  obtain⟨d,v,id,ob,k1,k2,k3,k4,k5⟩:=h g
  refine⟨d,v,id,ob,k1,k2,k3,?_,k5⟩
  have hal:isAl x=true:=by unfold isAl; rw[hx]
  unfold ckC at hc
  rw[hal] at hc
  dsimp only at hc
  have hd:li.d=some d:=by rw[←k1]; exact g3
  rw[hd] at hc
  dsimp only at hc
  have hv:=hE d
  rw[k2] at hv
  split at hc
  ·rename_i p i hl
   rw[hl] at hv
   cases hv with
   | ptr e=>cases k3; rw[hgr hc e rfl]; exact k4
  ·rename_i p k hl
   rw[hl] at hv
   obtain⟨hc1,hc2⟩:=hc
   split at hc1
   ·rename_i l len esz ver stp hg
    cases hv with
    | @dy _ _ k' hh _ e hk' ha hsl =>
     have:=(hs.obj p _ _ _ hg e).1
     have hha:v=hh:=ha (by omega)
     rw[hgr hc2 e (by rw[←hha]; exact k3)]; exact k4
   ·exact hc1.elim
  ·exact hc.elim
theorem cks_mem:∀ {pend:List DOp} {cs:List (LI×Bool)},zj1 P n ops pend=some (rck cs)→∀ {ρ:LEnv} {G G':z03},cksL ρ G G' cs→∀ x∈pend,∃ li,z8h P n ops x.o=some li.r∧(li,isAl x)∈cs∧ckL ρ G G' (li,isAl x)
 | [],_,_,_,_,_,_,x,hx=>by simp at hx
 | y::pend,[],h,_,_,_,_,x,hx=>by
  simp only[zj1] at h
  split at h
  ·cases h
  ·split at h <;> cases h
 | y::pend,(li,b)::cs,h,ρ,G,G',k,x,hx=>by
  simp only[zj1] at h
  split at h
  ·cases h
  ·rename_i r hr
   split at h
   ·cases h
   ·rename_i rs hrs
    simp only[rck,Option.some.injEq,List.cons.injEq,Prod.mk.injEq] at h
    obtain⟨⟨rfl,rfl⟩,h2⟩:=h
    rw[h2] at hrs
    rcases List.mem_cons.1 hx with rfl | hx
    ·exact⟨li,hr,by simp,k.1⟩
    ·obtain⟨li',q1,q2,q3⟩:=cks_mem hrs k.2 x hx
     exact⟨li',q1,by simp[q2],q3⟩
theorem zbo {α:Type} {f:α→Bool}:∀ {l:List α} {x:α},x∈z07 f l→x∈l
 | [],_,h=>h
 | a::l,x,h=>by
  simp only[z07] at h
  split at h
  ·rcases List.mem_cons.1 h with rfl | h
   ·simp
   ·exact List.mem_cons_of_mem _ (zbo h)
  ·exact List.mem_cons_of_mem _ (zbo h)
theorem zev {α:Type} {f:α→Bool}:∀ {l:List α},allB f l=true→∀ x∈l,f x=true
 | [],_,x,hx=>by simp at hx
 | a::l,h,x,hx=>by
  simp only[allB] at h
  split at h
  ·rename_i ha
   rcases List.mem_cons.1 hx with rfl | hx
   ·exact ha
   ·exact zev h x hx
  ·cases h
theorem zc6 {E:Tr AV} {H:Heap}:∀ {l:List DOp},(∀ x∈l,(z6b P ops x).run E H=true)→(z6h P ops l).run E H=true
 | [],_=>rfl
 | x::l,h=>by
  simp only[z6h]
  rw[h x (by simp)]
  exact zc6 (fun y hy=>h y (by simp[hy]))
structure Pend (P:Program) (n:Nat) (ops:Array Oper) (x:DOp):Prop where
 cls:x.c=.rd∨x.c=.al
 own:zg2 ops x=true
theorem drawGo_ok:∀ {l pend:List DOp} {items:List (LI×List (LI×Bool))} {c:Cx} {G:z03} {ρ:LEnv} {E:Tr AV} {K:LEnv→z03→Prop},zld P n ops l pend=some (rdr items)→(items.all fun x=>x.1.o.ok && x.2.all (·.1.o.ok))=true →
  HSim c G→EnvL c ρ E→(∀ x∈pend,Pend P n ops x∧z85 P ops x E c.H)→DrL P items ρ G K →
  ∃ m E' c' ρ' G',(z4k P n ops l pend).run (z4z P (OL P) m) E c.H=.ok E' c'.H∧HSim c' G'∧Step c G c' G'∧EnvL c' ρ' E'∧K ρ' G'
 | [],pend,items,c,G,ρ,E,K,h,_,hs,hE,_,k=>by
  cases items with
  | nil=>exact⟨0,E,c,ρ,G,rfl,hs,.refl c G,hE,k⟩
  | cons _ _=>cases h
 | x::l,pend,items,c,G,ρ,E,K,h,hok,hs,hE,hp,k=>by
  simp only[zld] at h
  split at h
  ·cases h
  ·rename_i hchk
   rw[Bool.and_eq_true] at hchk
   obtain⟨hoff,hcls⟩:=hchk
   split at h
   ·cases h
   ·rename_i r hr
    have head:∀ {li:LI} {cs:List (LI×Bool)} {its:List (LI×List (LI×Bool))},r=li.r→items=(li,cs)::its →
      ∃ m E1 c1 ρ1 G1 v,(z0l P n ops x.o).run (z4z P (OL P) m) E c.H=.ok E1 c1.H∧E1=putE x.o.dst v E∧HSim c1 G1∧Step c G c1 G1∧EnvL c1 ρ1 E1∧cksL ρ G G1 cs∧DrL P its ρ1 G1 K:=by
     intro li cs its e1 e2
     subst e2
     simp only[List.all_cons,Bool.and_eq_true] at hok
     obtain⟨m,E1,c1,ρ1,G1,q1,q2,q3,q4,q5,q6⟩:=ItL_ok hs hE hok.1.1 (show ItL P li ρ G (fun ρ' G'=>cksL ρ G G' cs∧DrL P its ρ' G' K) from k)
     rw[←e1,←ze7 hr] at q1
     obtain⟨v,w1,_⟩:=z5k q1
     exact⟨m,E1,c1,ρ1,G1,v,q1,w1,q2,q3,q4,q5,q6⟩
    have keepE:∀ {v:AV},∀ y∈pend,z85 P ops y E c.H→z85 P ops y (putE x.o.dst v E) c.H:=fun y hy hv=>hv.put (zev hoff y hy) _
    have go:∀ {pend':List DOp} {its:List (LI×List (LI×Bool))} {m:Nat} {E1:Tr AV} {c1:Cx} {ρ1:LEnv} {G1:z03},zld P n ops l pend'=some (rdr its)→(its.all fun x=>x.1.o.ok && x.2.all (·.1.o.ok))=true→HSim c1 G1→Step c G c1 G1→EnvL c1 ρ1 E1 →
      (∀ y∈pend',Pend P n ops y∧z85 P ops y E1 c1.H)→DrL P its ρ1 G1 K→(z0l P n ops x.o).run (z4z P (OL P) m) E c.H=.ok E1 c1.H →
      ∃ m' E' c' ρ' G',(z0l P n ops x.o).run (z4z P (OL P) m') E c.H=.ok E1 c1.H∧(z4k P n ops l pend').run (z4z P (OL P) m') E1 c1.H=.ok E' c'.H∧HSim c' G'∧Step c G c' G'∧EnvL c' ρ' E'∧K ρ' G':=by
     intro pend' its m E1 c1 ρ1 G1 a1 a2 a3 a4 a5 a6 a7 a8
     obtain⟨m2,E',c',ρ',G',b1,b2,b3,b4,b5⟩:=drawGo_ok a1 a2 a3 a5 a6 a7
     exact⟨max m m2,E',c',ρ',G',z3p (z36 (Nat.le_max_left m m2)) a8,z57 (z36 (Nat.le_max_right m m2)) b1,b2,.trans hs a3 a4 b3,b4,b5⟩
    cases hx:x.c with
    | quiet =>
     rw[hx] at h
     dsimp only at h
     split at h
     ·cases h
     ·rename_i rs hrs
      cases items with
      | nil=>cases h
      | cons it its =>
       obtain⟨li,cs⟩:=it
       simp only[rdr,Option.some.injEq,List.cons.injEq,Prod.mk.injEq] at h
       obtain⟨⟨h1,h2⟩,h3⟩:=h
       obtain⟨m,E1,c1,ρ1,G1,v,q1,q2,q3,q4,q5,q6,q7⟩:=head h1 rfl
       simp only[List.all_cons,Bool.and_eq_true] at hok
       have hH:c1.H=c.H:=by
        have hc:cls P x.o.op=.quiet:=by
         rw[hx] at hcls
         cases hq:cls P x.o.op <;> rw[hq] at hcls <;> first | rfl | cases hcls
        exact z5j (zay.1 hc).reads q1
       obtain⟨m',E',c',ρ',G',b1,b2,b3,b4,b5,b6⟩:=go (pend':=pend) (by rw[←h3]; exact hrs) hok.2 q3 q4 q5 (fun y hy=>⟨(hp y hy).1,by rw[hH,q2]; exact keepE y hy (hp y hy).2⟩) q7 q1
       refine⟨m',E',c',ρ',G',?_,b3,b4,b5,b6⟩
       simp only[z4k]
       rw[hx]
       dsimp only
       rw[b1]
       exact b2
    | rd =>
     rw[hx] at h
     dsimp only at h
     split at h
     ·cases h
     ·rename_i hown
      split at h
      ·cases h
      ·rename_i rs hrs
       cases items with
       | nil=>cases h
       | cons it its =>
        obtain⟨li,cs⟩:=it
        simp only[rdr,Option.some.injEq,List.cons.injEq,Prod.mk.injEq] at h
        obtain⟨⟨h1,h2⟩,h3⟩:=h
        obtain⟨m,E1,c1,ρ1,G1,v,q1,q2,q3,q4,q5,q6,q7⟩:=head h1 rfl
        simp only[List.all_cons,Bool.and_eq_true] at hok
        have hc:cls P x.o.op=.rd:=by
         rw[hx] at hcls
         cases hq:cls P x.o.op <;> rw[hq] at hcls <;> first | rfl | cases hcls
        have hH:c1.H=c.H:=z5j (zay.2 hc) q1
        have hself:z85 P ops x E1 c1.H:=by
         unfold z85
         rw[hx]
         intro g
         unfold zg2 at hown
         cases hdst:x.o.dst with
         | none=>rw[hdst] at hown; cases hown
         | some d =>
          rw[hdst] at hown
          have hm:memN d (z87 ops x.o)=false:=by simpa using hown
          have hsame:Same (z87 ops x.o) E1 E:=fun t ht _=>by
           rw[q2,hdst]
           show getP (z09 t) (setP v (z09 d) E)=_
           rw[z4v (fun q=>zcq hm (by rw[←q]; exact ht))]
          rw[z3m hsame] at g
          refine⟨d,v,rfl,by rw[q2,hdst]; exact z5r _ _ _,?_⟩
          rw[z7o hsame,hH]
          have hq:=q1
          unfold z0l at hq
          cases hpf:putF n x.o.dst with
          | none=>rw[hpf] at hq; cases hq
          | some pf =>
           rw[hpf] at hq
           dsimp only at hq
           rw[g] at hq
           dsimp only at hq
           have hrd:=(zay.2 hc) E c.H
           cases hr2:(z0i P x.o.op).run E c.H with
           | no=>rw[hr2] at hq; cases hq
           | call t a=>rw[hr2] at hrd; cases hrd
           | val w H2 =>
            rw[hr2] at hq hrd
            cases hrd
            injection hq with e1 e2
            have:=congrArg (fun E=>getP (z09 d) E) e1
            rw[q2,(zaa hpf).1,hdst,z5r,z5r] at this
            cases this
            rfl
        obtain⟨m',E',c',ρ',G',b1,b2,b3,b4,b5,b6⟩:=go (pend':=x::pend) (by rw[←h3]; exact hrs) hok.2 q3 q4 q5 (fun y hy=>by
         rcases List.mem_cons.1 hy with rfl | hy
         ·exact⟨⟨.inl hx,hown⟩,hself⟩
         ·exact⟨(hp y hy).1,by rw[hH,q2]; exact keepE y hy (hp y hy).2⟩) q7 q1
        refine⟨m',E',c',ρ',G',?_,b3,b4,b5,b6⟩
        simp only[z4k]
        rw[hx]
        dsimp only
        rw[b1]
        exact b2
    | al =>
     rw[hx] at h
     dsimp only at h
     split at h
     ·cases h
     ·rename_i hown
      split at h
      ·cases h
      ·rename_i cs' hcs
       split at h
       ·cases h
       ·rename_i rs hrs
        cases items with
        | nil=>cases h
        | cons it its =>
         obtain⟨li,cs⟩:=it
         simp only[rdr,Option.some.injEq,List.cons.injEq,Prod.mk.injEq] at h
         obtain⟨⟨h1,h2⟩,h3⟩:=h
         obtain⟨m,E1,c1,ρ1,G1,v,q1,q2,q3,q4,q5,q6,q7⟩:=head h1 rfl
         simp only[List.all_cons,Bool.and_eq_true] at hok
         have hc:cls P x.o.op=.al:=by
          rw[hx] at hcls
          cases hq:cls P x.o.op <;> rw[hq] at hcls <;> first | rfl | cases hcls
         rw[h2] at hcs
         have hold:∀ y∈pend,Pend P n ops y∧z85 P ops y E1 c1.H:=fun y hy=>by
          obtain⟨li',w1,w2,w3⟩:=cks_mem hcs q6 y hy
          have hliok:li'.o.ok=true:=List.all_eq_true.1 hok.1.2 _ w2
          refine⟨(hp y hy).1,?_⟩
          rw[q2]
          exact ((hp y hy).2.keep w1 hliok hs hE q4 w3).put (zev hoff y hy) _
         have hself:z85 P ops x E1 c1.H:=by
          unfold z85
          rw[hx]
          intro g
          unfold zg2 at hown
          cases hdst:x.o.dst with
          | none=>rw[hdst] at hown; cases hown
          | some d =>
           rw[hdst] at hown
           have hm:memN d (z87 ops x.o)=false:=by simpa using hown
           have hsame:Same (z87 ops x.o) E1 E:=fun t ht _=>by
            rw[q2,hdst]
            show getP (z09 t) (setP v (z09 d) E)=_
            rw[z4v (fun q=>zcq hm (by rw[←q]; exact ht))]
           rw[z3m hsame] at g
           have hq:=q1
           unfold z0l at hq
           cases hpf:putF n x.o.dst with
           | none=>rw[hpf] at hq; cases hq
           | some pf =>
            rw[hpf] at hq
            dsimp only at hq
            rw[g] at hq
            dsimp only at hq
            cases hr2:(z0i P x.o.op).run E c.H with
            | no=>rw[hr2] at hq; cases hq
            | call t a =>
             exfalso
             have:=zq6 (o:=x.o) hc E c.H
             rw[hr2] at this
             exact this
            | val w H2 =>
             rw[hr2] at hq
             injection hq with e1 e2
             have:=congrArg (fun E=>getP (z09 d) E) e1
             rw[q2,(zaa hpf).1,hdst,z5r,z5r] at this
             cases this
             obtain⟨ob,u1,u2,u3⟩:=al_any hc hr2
             refine⟨d,_,c.H.next,ob,rfl,by rw[q2,hdst]; exact z5r _ _ _,u2,?_,fun H3=>by rw[z7o hsame]; exact u3 H3⟩
             rw[←e2,u1]
             exact Heap.get_push_same _ _
         obtain⟨m',E',c',ρ',G',b1,b2,b3,b4,b5,b6⟩:=go (pend':=x::pend) (by rw[←h3]; exact hrs) hok.2 q3 q4 q5 (fun y hy=>by
          rcases List.mem_cons.1 hy with rfl | hy
          ·exact⟨⟨.inr hx,hown⟩,hself⟩
          ·exact hold y hy) q7 q1
         refine⟨m',E',c',ρ',G',?_,b3,b4,b5,b6⟩
         simp only[z4k]
         rw[hx]
         dsimp only
         rw[b1]
         dsimp only
         rw[zc6 (fun y hy=>by
          rcases List.mem_cons.1 hy with rfl | hy
          ·exact z8n hself (.inr hx) hown
          ·exact z8n (hold y hy).2 (hold y hy).1.cls (hold y hy).1.own)]
         exact b2
    | ch =>
     rw[hx] at h
     dsimp only at h
     split at h
     ·cases h
     ·rename_i cs' hcs
      split at h
      ·cases h
      ·rename_i rs hrs
       cases items with
       | nil=>cases h
       | cons it its =>
        obtain⟨li,cs⟩:=it
        simp only[rdr,Option.some.injEq,List.cons.injEq,Prod.mk.injEq] at h
        obtain⟨⟨h1,h2⟩,h3⟩:=h
        obtain⟨m,E1,c1,ρ1,G1,v,q1,q2,q3,q4,q5,q6,q7⟩:=head h1 rfl
        simp only[List.all_cons,Bool.and_eq_true] at hok
        rw[h2] at hcs
        have hold:∀ y∈z07 (fun y=>!(Nat.testBit x.m y.i)) pend,Pend P n ops y∧z85 P ops y E1 c1.H:=fun y hy=>by
         have hy':=zbo hy
         obtain⟨li',w1,w2,w3⟩:=cks_mem hcs q6 y hy
         have hliok:li'.o.ok=true:=List.all_eq_true.1 hok.1.2 _ w2
         refine⟨(hp y hy').1,?_⟩
         rw[q2]
         exact ((hp y hy').2.keep w1 hliok hs hE q4 w3).put (zev hoff y hy') _
        obtain⟨m',E',c',ρ',G',b1,b2,b3,b4,b5,b6⟩:=go (pend':=z07 (fun y=>!(Nat.testBit x.m y.i)) pend) (by rw[←h3]; exact hrs) hok.2 q3 q4 q5 hold q7 q1
        refine⟨m',E',c',ρ',G',?_,b3,b4,b5,b6⟩
        simp only[z4k]
        rw[hx]
        dsimp only
        rw[b1]
        dsimp only
        rw[zc6 (fun y hy=>z8n (hold y hy).2 (hold y hy).1.cls (hold y hy).1.own)]
        exact b2
end draw
section rule
variable {P : Program} {f n : Nat} {ro : Option Nat} {ρ : LEnv} {D : List Nat} {G : z03} {Q : Post}
theorem W_draw {l:List (LI×List (LI×Bool))} (h:DrL P l ρ G fun ρ' G'=>Q .normal ρ' D G'):W P f n (.draw l) ro ρ D G Q:=by
 intro code c E D1 ro1 h1 h2 h3 h4 h5 h6
 obtain⟨id,ops,rfl,hr⟩:=inv_draw h1
 unfold zoz at hr
 dsimp only at hr
 split at hr
 ·rename_i hd
  obtain⟨m,E',c',ρ',G',q1,q2,q3,q4,q5⟩:=drawGo_ok hr h2 h3 h4 (fun x hx=>by simp at hx) h
  refine⟨m,.normal,E',D1,c',ρ',D,G',?_,q2,q3,q4,h5.mono q3.le,q5⟩
  simp only[z0h,z8u]
  rw[hd]
  dsimp only
  rw[q1]
 ·cases hr
end rule
end Go.Sv
namespace Go.Sv
mutual
def LV.dat:LV→Bool
 | .any=>true
 | .bool _ | .u _ | .b _ | .i _ | .int _ _ | .str _ | .nilPtr | .nilSl | .nilMap | .nilFn | .nilIf=>true
 | .cptr l _=>dats l
 | .lst l _ _=>dats l
 | .fn (.func _) l r=>dats l && dats r
 | .iface _ v=>v.dat
 | .agg l=>dats l
 | .tup l=>dats l
 | _=>false
def dats:List LV→Bool
 | []=>true
 | v::l=>v.dat && dats l
end
mutual
theorem AR.dat {c c':Cx} (hfz:∀ o,c.Fz o→c'.Fz o∧c'.H.get o=c.H.get o) (v:LV) (a:AV) (hd:v.dat=true) (h:AR c v a):AR c' v a:=by
 cases v with
 | cptr l i =>
  simp only[LV.dat] at hd
  cases h with
  | cptr hf hr hl=>exact .cptr (hfz _ hf).1 (by rw[z3e (hfz _ hf).2]; exact hr) (ARs.dat hfz l _ hd hl)
 | lst l len esz =>
  simp only[LV.dat] at hd
  cases h with
  | lst hf hrm hlen hr hl=>exact .lst (hfz _ hf).1 hrm hlen (by rw[z3e (hfz _ hf).2]; exact hr) (ARs.dat hfz l _ hd hl)
  | lstNil=>exact .lstNil
  | lstEmp=>exact .lstEmp
 | fn f l r =>
  cases f with
  | func f =>
   simp only[LV.dat,Bool.and_eq_true] at hd
   cases h with
   | fn hl hr=>exact .fn (ARs.dat hfz l _ hd.1 hl) (ARs.dat hfz r _ hd.2 hr)
  | _=>simp[LV.dat] at hd
 | iface t w =>
  simp only[LV.dat] at hd
  cases h with
  | iface h=>exact .iface (AR.dat hfz w _ hd h)
 | agg l =>
  simp only[LV.dat] at hd
  cases h with
  | agg h=>exact .agg (ARs.dat hfz l _ hd h)
 | tup l =>
  simp only[LV.dat] at hd
  cases h with
  | tup h=>exact .tup (ARs.dat hfz l _ hd h)
 | any=>exact .any a
 | _=>first | (simp only[LV.dat] at hd; cases hd; done) | (cases h; constructor)
termination_by SizeOf.sizeOf v
theorem ARs.dat {c c':Cx} (hfz:∀ o,c.Fz o→c'.Fz o∧c'.H.get o=c.H.get o) (l:List LV) (r:List AV) (hd:dats l=true) (h:ARs c l r):ARs c' l r:=by
 cases l with
 | nil=>cases h; exact .nil
 | cons v l =>
  simp only[dats,Bool.and_eq_true] at hd
  cases h with
  | cons e es=>exact .cons (AR.dat hfz v _ hd.1 e) (ARs.dat hfz l _ hd.2 es)
termination_by SizeOf.sizeOf l
end
theorem dats_app:∀ {l r:List LV},dats l=true→dats r=true→dats (l++r)=true
 | [],_,_,h=>h
 | v::l,r,h,k=>by
  simp only[dats,Bool.and_eq_true] at h
  simp only[List.cons_append,dats,Bool.and_eq_true]
  exact⟨h.1,dats_app h.2 k⟩
theorem dats_take:∀ {l:List LV} (n:Nat),dats l=true→dats (l.take n)=true
 | _,0,_=>by simp[dats]
 | [],n+1,_=>by simp[dats]
 | v::l,n+1,h=>by
  simp only[dats,Bool.and_eq_true] at h
  simp only[List.take_succ_cons,dats,Bool.and_eq_true]
  exact⟨h.1,dats_take n h.2⟩
theorem dats_drop:∀ {l:List LV} (n:Nat),dats l=true→dats (l.drop n)=true
 | _,0,h=>h
 | [],n+1,_=>by simp[dats]
 | v::l,n+1,h=>by
  simp only[dats,Bool.and_eq_true] at h
  simp only[List.drop_succ_cons]
  exact dats_drop n h.2
theorem zb1 {α:Type} {f:α→LV} (h:∀ a,(f a).dat=true):∀ l:List α,dats (l.map f)=true
 | []=>rfl
 | a::l=>by simp only[List.map_cons,dats,Bool.and_eq_true]; exact⟨h a,zb1 h l⟩
mutual
def bor (G:z03):LV→LV→Prop
 | .dy p k,d=>∃ l len esz st,d=.lst l len esz∧G[p]?=some (.dyn l len esz k st)∧dats l=true
 | .vw p k lo len,d=>∃ l len0 esz st,d=.lst ((l.drop (lo * esz)).take (len * esz)) len esz∧G[p]?=some (.dyn l len0 esz k st)∧lo * esz+len * esz≤l.length∧dats l=true
 | .nilSl,d=>d=.nilSl∨∃ esz,d=.lst [] 0 esz
 | .agg l,d=>∃ r,d=.agg r∧bors G l r
 | v,d=>d=v∧v.dat=true
def bors (G:z03):List LV→List LV→Prop
 | [],r=>r=[]
 | v::l,r=>∃ d r',r=d::r'∧bor G v d∧bors G l r'
end
section calls
variable {P : Program} {c : Cx} {G : z03}
theorem bor_dat {v d:LV} {a:AV} (hb:d=v∧v.dat=true) (h:AR c v a):AR ⟨[],fun o=>c.Fz o∨Own c G o,c.H⟩ d a:=by
 obtain⟨rfl,hd⟩:=hb
 exact AR.dat (c':=⟨[],fun o=>c.Fz o∨Own c G o,c.H⟩) (fun o ho=>⟨Or.inl ho,rfl⟩) d a hd h
mutual
theorem bor_ok (hs:HSim c G) (v d:LV) (a:AV) (hb:bor G v d) (h:AR c v a):AR ⟨[],fun o=>c.Fz o∨Own c G o,c.H⟩ d a:=by
 cases v with
 | dy p k =>
  simp only[bor] at hb
  obtain⟨l,len,esz,st,rfl,hg,hd⟩:=hb
  cases h with
  | @dy _ _ k' hh _ e hk ha _ =>
   have hob:=hs.obj p _ _ _ hg e
   obtain⟨r0,r1,r2⟩:=hob
   have hha:=ha (by omega)
   rcases r2 with ⟨r2,r3⟩ | ⟨o,v,room,t,clen,l',r2,r3,r4,r5,r6,r7,r8⟩
   ·subst r3
    have:l=[]:=List.eq_nil_of_length_eq_zero (by simpa using r1)
    subst this
    rw[hha,r2]; exact .lstNil
   ·have hl':l'.length=len * esz:=by rw[←r6.length]; exact r1
    have hr:=z1m (i:=0) (n:=len * esz) r3 r5 r4 (by omega)
    rw[List.drop_zero,List.take_of_length_le (by omega)] at hr
    rw[hha,r2]
    exact .lst (.inr ⟨p,_,_,_,hg,rfl,e,by rw[r2]; rfl⟩) (fun r e=>(r7 r e).2) r1 hr (ARs.dat (c':=⟨[],fun o=>c.Fz o∨Own c G o,c.H⟩) (fun o ho=>⟨Or.inl ho,rfl⟩) l l' hd r6)
 | vw p k lo len =>
  simp only[bor] at hb
  obtain⟨l,len0,esz,st,rfl,hg,hle,hd⟩:=hb
  cases h with
  | @vw _ _ _ _ k' hh _ e hk ha _ _ =>
   have hkv:=(hs.obj p _ _ _ hg e).1
   rcases ha (by omega) with ⟨r3,r4⟩ | ⟨o,v,len',esz',room,room',r3,r4,r9⟩
   ·subst r3
    simp only[Nat.zero_mul,List.take_zero]
    rcases r4 with rfl | ⟨rfl,_⟩
    ·exact .lstNil
    ·exact .lstEmp
   ·have e2:=e
    rw[r3] at e2
    obtain⟨_,q1,q2,q3,t,clen,l',q4,q5,q6,q7,_⟩:=z9w hs hg e2
    subst q2 q3
    have hr:=z1m (i:=lo * esz') (n:=len * esz') q4 q6 q5 (by omega)
    rw[r4]
    refine .lst (.inr ⟨p,_,_,_,hg,rfl,e,by rw[r3]; rfl⟩) r9 (by simp; omega) hr ?_
    exact ((ARs.dat (c':=⟨[],fun o=>c.Fz o∨Own c G o,c.H⟩) (fun o ho=>⟨Or.inl ho,rfl⟩) l l' hd q7).drop _).take _
 | nilSl =>
  simp only[bor] at hb
  cases h
  rcases hb with rfl | ⟨esz,rfl⟩
  ·exact .nilSl
  ·exact .lstNil
 | agg l =>
  simp only[bor] at hb
  obtain⟨r,rfl,hb⟩:=hb
  cases h with
  | agg h=>exact .agg (bors_ok hs l r _ hb h)
 | _=>exact bor_dat (by simpa only[bor] using hb) h
termination_by SizeOf.sizeOf v
theorem bors_ok (hs:HSim c G) (l r:List LV) (as:List AV) (hb:bors G l r) (h:ARs c l as):ARs ⟨[],fun o=>c.Fz o∨Own c G o,c.H⟩ r as:=by
 cases l with
 | nil=>simp only[bors] at hb; subst hb; cases h; exact .nil
 | cons v l =>
  simp only[bors] at hb
  obtain⟨d,r',rfl,hb1,hb2⟩:=hb
  cases h with
  | cons e es=>exact .cons (bor_ok hs v d _ hb1 e) (bors_ok hs l r' _ hb2 es)
termination_by SizeOf.sizeOf l
end
mutual
def shV (n:Nat):LV→LV
 | .dy j k=>.dy (n+j) k
 | .agg l=>.agg (shVs n l)
 | .tup l=>.tup (shVs n l)
 | v=>v
def shVs (n:Nat):List LV→List LV
 | []=>[]
 | v::l=>shV n v::shVs n l
end
mutual
def frV (G0:z03):LV→LV
 | .dy j _=>match G0[j]? with
  | some (.dyn l len esz _ _)=>.lst l len esz
  | _=>.any
 | .agg l=>.agg (frVs G0 l)
 | .tup l=>.tup (frVs G0 l)
 | v=>v
def frVs (G0:z03):List LV→List LV
 | []=>[]
 | v::l=>frV G0 v::frVs G0 l
end
mutual
theorem sh_AR {c0 c':Cx} {n m:Nat} (h:∀ j a,j < m→AR c0 (.dy j 0) a→AR c' (.dy (n+j) 0) a) (v:LV) (a:AV) (hs:v.sim m=true) (ha:AR c0 v a):AR c' (shV n v) a:=by
 cases v with
 | dy j k =>
  simp only[LV.sim,Bool.and_eq_true,beq_iff_eq,decide_eq_true_eq] at hs
  obtain⟨rfl,hj⟩:=hs
  exact h j a hj ha
 | agg l =>
  simp only[LV.sim] at hs
  cases ha with
  | agg ha=>simp only[shV]; exact .agg (sh_ARs h l _ hs ha)
 | tup l =>
  simp only[LV.sim] at hs
  cases ha with
  | tup ha=>simp only[shV]; exact .tup (sh_ARs h l _ hs ha)
 | _=>first | (simp only[LV.sim] at hs; cases hs; done) | (simp only[shV]; cases ha; constructor)
termination_by SizeOf.sizeOf v
theorem sh_ARs {c0 c':Cx} {n m:Nat} (h:∀ j a,j < m→AR c0 (.dy j 0) a→AR c' (.dy (n+j) 0) a) (l:List LV) (r:List AV) (hs:sims m l=true) (ha:ARs c0 l r):ARs c' (shVs n l) r:=by
 cases l with
 | nil=>cases ha; simp only[shVs]; exact .nil
 | cons v l =>
  simp only[sims,Bool.and_eq_true] at hs
  cases ha with
  | cons e es=>simp only[shVs]; exact .cons (sh_AR h v _ hs.1 e) (sh_ARs h l _ hs.2 es)
termination_by SizeOf.sizeOf l
end
mutual
theorem fr_AR {c0 c':Cx} {G0:z03} (h:∀ j a,j < G0.length→AR c0 (.dy j 0) a→AR c' (frV G0 (.dy j 0)) a) (v:LV) (a:AV) (hs:v.sim G0.length=true) (ha:AR c0 v a):AR c' (frV G0 v) a:=by
 cases v with
 | dy j k =>
  simp only[LV.sim,Bool.and_eq_true,beq_iff_eq,decide_eq_true_eq] at hs
  obtain⟨rfl,hj⟩:=hs
  exact h j a hj ha
 | agg l =>
  simp only[LV.sim] at hs
  cases ha with
  | agg ha=>simp only[frV]; exact .agg (fr_ARs h l _ hs ha)
 | tup l =>
  simp only[LV.sim] at hs
  cases ha with
  | tup ha=>simp only[frV]; exact .tup (fr_ARs h l _ hs ha)
 | _=>first | (simp only[LV.sim] at hs; cases hs; done) | (simp only[frV]; cases ha; constructor)
termination_by SizeOf.sizeOf v
theorem fr_ARs {c0 c':Cx} {G0:z03} (h:∀ j a,j < G0.length→AR c0 (.dy j 0) a→AR c' (frV G0 (.dy j 0)) a) (l:List LV) (r:List AV) (hs:sims G0.length l=true) (ha:ARs c0 l r):ARs c' (frVs G0 l) r:=by
 cases l with
 | nil=>cases ha; simp only[frVs]; exact .nil
 | cons v l =>
  simp only[sims,Bool.and_eq_true] at hs
  cases ha with
  | cons e es=>simp only[frVs]; exact .cons (fr_AR h v _ hs.1 e) (fr_ARs h l _ hs.2 es)
termination_by SizeOf.sizeOf l
end
theorem z02 {f:Nat} {args dargs:List LV} {v0:LV} {G0:z03} {K:LV→z03→Prop} (hc:FnS P f dargs v0 G0) (hb:bors G args dargs) (k:K (frV G0 v0) G):z0k P (.fn f) args G K:=by
 obtain⟨ht,hsim,hG,hrun⟩:=hc
 refine⟨ht,fun c t1 args1 hs htr ha=>?_⟩
 cases t1 with
 | yield o=>exact htr.elim
 | fn g =>
  obtain rfl:f=g:=htr
  obtain⟨m,v1,hd',H',q1,q2,q3,q4,q5,q6⟩:=hrun (fun o=>c.Fz o∨Own c G o) c.H args1 (fun o ho=>ho.elim (hs.fz o) (hs.lt o)) (bors_ok hs args dargs args1 hb ha)
  have hle:CxLe c ⟨c.hd,fun o=>c.Fz o∨Own ⟨hd',fun o=>c.Fz o∨Own c G o,H'⟩ G0 o,H'⟩:=⟨fun p k h e=>⟨k,h,e,Nat.le_refl _,fun _=>rfl,fun _=>rfl⟩,fun o ho=>⟨.inl ho,q5 o (hs.fz o ho)⟩⟩
  have hown:∀ o,Own ⟨c.hd,fun o=>c.Fz o∨Own ⟨hd',fun o=>c.Fz o∨Own c G o,H'⟩ G0 o,H'⟩ G o→Own c G o:=fun o ⟨p,ob,k,h,e1,e2,e3,e4⟩=>⟨p,ob,k,h,e1,e2,e3,e4⟩
  refine⟨m,v1,H',q1,⟨c.hd,fun o=>c.Fz o∨Own ⟨hd',fun o=>c.Fz o∨Own c G o,H'⟩ G0 o,H'⟩,frV G0 v0,G,rfl,?_,?_,?_,k⟩
  ·refine⟨hs.len,fun o ho=>?_,fun o ho=>Nat.lt_of_lt_of_le (hs.lt o (hown o ho)) q4,fun o ho hf=>?_,fun p ob k h e1 e2=>?_,fun p q ob ob' k h k' h' o e1 e2 e3 e4 e5 e6 e7 e8=>hs.excl p q ob ob' k h k' h' o e1 e2 e3 e4 e5 e6 e7 e8⟩
   ·rcases ho with ho | ho
    ·exact Nat.lt_of_lt_of_le (hs.fz o ho) q4
    ·exact q2.lt o ho
   ·rcases hf with hf | hf
    ·exact hs.sep o (hown o ho) hf
    ·have:=q6 o hf; have:=hs.lt o (hown o ho); omega
   ·by_cases hl:ob.live=true
    ·exact (hs.obj p ob k h e1 e2).mono hle (fun o ho=>q5 o (hs.lt o ⟨p,ob,k,h,e1,hl,e2,ho⟩))
    ·cases ob <;> first | exact absurd rfl hl | trivial
  ·refine⟨hle,q4,fun o ho _=>q5 o ho,fun o ho=>.inl (hown o ho),fun o ho=>ho.elim .inl (fun h=>.inr (.inr (q6 o h))),fun p ob ob' e1 e2=>?_,fun p ob ob' k h o e1 e2 e3 e4 e5 e6=>?_⟩
   ·rw[e1] at e2; cases e2; exact Nat.le_refl _
   ·rw[e1] at e2; cases e2
    have hl:ob.live=true:=by cases ob <;> first | rfl | cases e5
    exact⟨rfl,q5 o (hs.lt o ⟨p,ob,k,h,e1,hl,e3,e4⟩),rfl⟩
  ·refine fr_AR (fun j a hj h=>?_) v0 v1 hsim q3
   obtain⟨l,len,esz,hob,hsc⟩:=hG j _ (List.getElem?_eq_getElem hj)
   have hg:G0[j]?=some (.dyn l len esz 0 0):=by rw[List.getElem?_eq_getElem hj,hob]
   simp only[frV]
   rw[hg]
   dsimp only
   cases h with
   | @dy _ _ k' hh _ e hk ha _ =>
    obtain⟨r0,r1,r2⟩:=q2.obj j _ _ _ hg e
    have hha:=ha (by omega)
    rcases r2 with ⟨r2,r3⟩ | ⟨o,v,room,t,clen,l',r2,r3,r4,r5,r6,r7,r8⟩
    ·subst r3
     have:l=[]:=List.eq_nil_of_length_eq_zero (by simpa using r1)
     subst this
     rw[hha,r2]; exact .lstNil
    ·have hl':l'.length=len * esz:=by rw[←r6.length]; exact r1
     have hr:=z1m (i:=0) (n:=len * esz) r3 r5 r4 (by omega)
     rw[List.drop_zero,List.take_of_length_le (by omega)] at hr
     rw[hha,r2]
     exact .lst (.inr ⟨j,_,_,_,hg,rfl,e,by rw[r2]; rfl⟩) (fun r e=>(r7 r e).2) r1 hr (zcd hsc r6)
theorem zbp {f:Nat} {args dargs:List LV} {v0:LV} {G0:z03} {K:LV→z03→Prop} (hc:FnS P f dargs v0 G0) (hb:bors G args dargs) (k:K (shV G.length v0) (G++G0)):z0k P (.fn f) args G K:=by
 obtain⟨ht,hsim,hG,hrun⟩:=hc
 refine⟨ht,fun c t1 args1 hs htr ha=>?_⟩
 cases t1 with
 | yield o=>exact htr.elim
 | fn g =>
  obtain rfl:f=g:=htr
  obtain⟨m,v1,hd',H',q1,q2,q3,q4,q5,q6⟩:=hrun (fun o=>c.Fz o∨Own c G o) c.H args1 (fun o ho=>ho.elim (hs.fz o) (hs.lt o)) (bors_ok hs args dargs args1 hb ha)
  have hhd:∀ (p k:Nat) (h:AV),c.hd[p]?=some (k,h)→(c.hd++hd')[p]?=some (k,h):=fun p k h e=>by
   rw[List.getElem?_append_left (List.getElem?_eq_some_iff.1 e).1]; exact e
  have hle:CxLe c ⟨c.hd++hd',c.Fz,H'⟩:=⟨fun p k h e=>⟨k,h,hhd p k h e,Nat.le_refl _,fun _=>rfl,fun _=>rfl⟩,fun o ho=>⟨ho,q5 o (hs.fz o ho)⟩⟩
  have hlen':hd'.length=G0.length:=q2.len
  have hinv:∀ (p:Nat) (k:Nat) (h:AV) (ob':LObj),(c.hd++hd')[p]?=some (k,h)→(G++G0)[p]?=some ob'→(c.hd[p]?=some (k,h)∧G[p]?=some ob')∨(G.length≤p∧hd'[p - G.length]?=some (k,h)∧G0[p - G.length]?=some ob'):=by
   intro p k h ob' e1 e2
   by_cases hp:p < G.length
   ·rw[List.getElem?_append_left hp] at e2
    rw[List.getElem?_append_left (by rw[hs.len]; exact hp)] at e1
    exact .inl ⟨e1,e2⟩
   ·rw[List.getElem?_append_right (by omega)] at e2
    rw[List.getElem?_append_right (by rw[hs.len]; omega),hs.len] at e1
    exact .inr ⟨by omega,e1,e2⟩
  have hownG:∀ (p k:Nat) (h:AV) (ob:LObj) (o:Nat),hd'[p]?=some (k,h)→G0[p]?=some ob→ob.live=true→idOf h=some o→Own ⟨hd',fun o=>c.Fz o∨Own c G o,H'⟩ G0 o:=fun p k h ob o e1 e2 e3 e4=>⟨p,ob,k,h,e2,e3,e1,e4⟩
  have hown:∀ o,Own ⟨c.hd++hd',c.Fz,H'⟩ (G++G0) o→Own c G o∨(c.H.next≤o∧o < H'.next):=by
   rintro o ⟨p,ob',k,h,e1,e2,e3,e4⟩
   rcases hinv p k h ob' e3 e1 with ⟨q1,q2⟩ | ⟨_,r1,r2⟩
   ·exact .inl ⟨p,ob',k,h,q2,e2,q1,e4⟩
   ·have:=hownG _ k h ob' o r1 r2 e2 e4
    exact .inr ⟨q6 o this,q2.lt o this⟩
  refine⟨m,v1,H',q1,⟨c.hd++hd',c.Fz,H'⟩,shV G.length v0,G++G0,rfl,?_,?_,?_,k⟩
  ·refine⟨by simp[hs.len,hlen'],fun o ho=>Nat.lt_of_lt_of_le (hs.fz o ho) q4,fun o ho=>?_,fun o ho hf=>?_,fun p ob k h e1 e2=>?_,fun p q ob ob' k h k' h' o e1 e2 e3 e4 e5 e6 e7 e8=>?_⟩
   ·rcases hown o ho with h | h
    ·exact Nat.lt_of_lt_of_le (hs.lt o h) q4
    ·exact h.2
   ·rcases hown o ho with h | h
    ·exact hs.sep o h hf
    ·have:=hs.fz o hf; omega
   ·rcases hinv p k h ob e2 e1 with ⟨r1,r2⟩ | ⟨_,r1,r2⟩
    ·by_cases hl:ob.live=true
     ·exact (hs.obj p ob k h r2 r1).mono hle (fun o ho=>q5 o (hs.lt o ⟨p,ob,k,h,r2,hl,r1,ho⟩))
     ·cases ob <;> first | exact absurd rfl hl | trivial
    ·obtain⟨l,len,esz,rfl,hsc⟩:=hG _ _ r2
     obtain⟨s0,s1,s2⟩:=q2.obj _ _ _ _ r2 r1
     refine⟨s0,s1,?_⟩
     rcases s2 with s2 | ⟨o,v,room,t,clen,l',s2,s3,s4,s5,s6,s7⟩
     ·exact .inl s2
     ·exact .inr ⟨o,v,room,t,clen,l',s2,s3,s4,s5,zcd hsc s6,s7⟩
   ·rcases hinv p k h ob e5 e1 with ⟨r1,r2⟩ | ⟨hp,r1,r2⟩ <;> rcases hinv q k' h' ob' e6 e2 with ⟨r3,r4⟩ | ⟨hq,r3,r4⟩
    ·exact hs.excl p q ob ob' k h k' h' o r2 r4 e3 e4 r1 r3 e7 e8
    ·have:=hs.lt o ⟨p,ob,k,h,r2,e3,r1,e7⟩
     have:=q6 o (hownG _ _ _ _ o r3 r4 e4 e8); omega
    ·have:=hs.lt o ⟨q,ob',k',h',r4,e4,r3,e8⟩
     have:=q6 o (hownG _ _ _ _ o r1 r2 e3 e7); omega
    ·have:=q2.excl _ _ ob ob' k h k' h' o r2 r4 e3 e4 r1 r3 e7 e8
     omega
  ·refine⟨hle,q4,fun o ho _=>q5 o ho,fun o ho=>(hown o ho).elim .inl (fun h=>.inr h.1),fun o ho=>.inl ho,fun p ob ob' e1 e2=>?_,fun p ob ob' k h o e1 e2 e3 e4 e5 e6=>?_⟩
   ·rw[List.getElem?_append_left (List.getElem?_eq_some_iff.1 e1).1,e1] at e2
    cases e2; exact Nat.le_refl _
   ·rw[List.getElem?_append_left (List.getElem?_eq_some_iff.1 e1).1,e1] at e2
    cases e2
    have hl:ob.live=true:=by cases ob <;> first | rfl | cases e5
    exact⟨rfl,q5 o (hs.lt o ⟨p,ob,k,h,e1,hl,e3,e4⟩),by rw[hhd p k h e3,e3]⟩
  ·refine sh_AR (fun j a hj h=>?_) v0 v1 hsim q3
   cases h with
   | @dy _ _ k' hh _ e hk ha hsl =>
    exact .dy (k':=k') (h:=hh) (by dsimp only; rw[List.getElem?_append_right (by rw[hs.len]; omega),hs.len,Nat.add_sub_cancel_left]; exact e) hk ha hsl
end calls
end Go.Sv
namespace Go.Sv
section rules
variable {P : Program} {f n : Nat} {ρ : LEnv} {D : List Nat} {G : z03} {Q : Post}
end rules
end Go.Sv
namespace Go.Sv
noncomputable def wp (P:Program) (f n:Nat) (ro:Option Nat):LC→LEnv→List Nat→z03→Post→Prop
 | .skip,ρ,D,G,Q=>Q .normal ρ D G
 | .ops l,ρ,D,G,Q=>OpsL P l ρ G fun ρ' G'=>Q .normal ρ' D G'
 | .seq a b,ρ,D,G,Q=>wp P f n ro a ρ D G fun x ρ' D' G'=>match x with
  | .normal=>wp P f n ro b ρ' D' G' Q
  | x=>Q x ρ' D' G'
 | .cond x a b,ρ,D,G,Q=>brV (x.ev ρ) (wp P f n ro a ρ D G Q) (wp P f n ro b ρ D G Q)
 | .block id c,ρ,D,G,Q=>wp P f n ro c ρ D G fun x ρ' D' G'=>match x with
  | .exit i=>if i=id then Q .normal ρ' D' G' else Q (.exit i) ρ' D' G'
  | x=>Q x ρ' D' G'
 | .draw l,ρ,D,G,Q=>DrL P l ρ G fun ρ' G'=>Q .normal ρ' D G'
 | .exit id,ρ,D,G,Q=>Q (.exit id) ρ D G
 | .scope c,ρ,D,G,Q=>wp P f n ro c ρ D G Q
 | .label,ρ,D,G,Q=>Q .normal ρ D G
 | .ret,ρ,D,G,Q=>Q .ret ρ D G
 | .stuck,_,_,_,_=>False
 | s,ρ,D,G,Q=>W P f n s ro ρ D G Q
noncomputable def seqQ (P:Program) (f n:Nat) (ro:Option Nat) (b:LC) (Q:Post):Post:=fun x ρ' D' G'=>match x with
  | .normal=>wp P f n ro b ρ' D' G' Q
  | x=>Q x ρ' D' G'
def blkQ (id:Nat) (Q:Post):Post:=fun x ρ' D' G'=>match x with
  | .exit i=>if i=id then Q .normal ρ' D' G' else Q (.exit i) ρ' D' G'
  | x=>Q x ρ' D' G'
def nxQ (Nx:LEnv→List Nat→z03→Prop) (Q:Post):Post:=fun x ρ' D' G'=>match x with
  | .normal=>Nx ρ' D' G'
  | x=>Q x ρ' D' G'
def endK (K:LV→z03→Prop) (G:z03):List LV→Prop:=fun vs=>K (oneL vs) G
noncomputable def takK (ρ:LEnv) (rs:List RRes) (K:LV→z03→Prop):z03→Prop:=fun G2=>resL ρ G2 rs (endK K G2)
noncomputable def endQ (rs : List RRes) (K : LV → z03 → Prop) : Post := fun x ρ D G' => match x with
   | .exit _=>False
   | _=>zm8 D G' (takK ρ rs K)
def norQ (Q:Post) (D:List Nat):LEnv→z03→Prop:=fun ρ G=>Q .normal ρ D G
noncomputable def opsK (P:Program) (l:List LI) (K:LEnv→z03→Prop):LEnv→z03→Prop:=fun ρ' G'=>OpsL P l ρ' G' K
def itK (ρ:LEnv) (d:Option Nat) (K:LEnv→z03→Prop):LV→z03→Prop:=fun v G'=>K (updL ρ d v) G'
def atG (K:LV→z03→Prop) (G:z03):LV→Prop:=fun v=>K v G
noncomputable def drK (P:Program) (cs:List (LI×Bool)) (l:List (LI×List (LI×Bool))) (ρ:LEnv) (G:z03) (K:LEnv→z03→Prop):LEnv→z03→Prop:=fun ρ' G'=>cksL ρ G G' cs∧DrL P l ρ' G' K
noncomputable def tmpK (ρ:LEnv) (t:Nat) (K:List LV→Prop):List LV→Prop:=fun vs=>K (lk ρ t::vs)
def conK (v:LV) (K:List LV→Prop):List LV→Prop:=fun vs=>K (v::vs)
noncomputable def cnK (ρ:LEnv) (G:z03) (l:List RRes) (K:List LV→Prop):List LV→Prop:=fun cs=>resL ρ G l (conK (.agg cs) K)
theorem wp_W {P:Program} {f n:Nat} {ro:Option Nat}:∀ (s:LC) {ρ:LEnv} {D:List Nat} {G:z03} {Q:Post},wp P f n ro s ρ D G Q→W P f n s ro ρ D G Q
 | .skip,_,_,_,_,h=>W_skip h
 | .ops l,_,_,_,_,h=>W_ops h
 | .seq a b,_,_,_,_,h=>W_seq ((wp_W a h).post fun x ρ D G k=>by
  cases x with
  | normal=>exact wp_W b k
  | exit i=>exact k
  | ret=>exact k)
 | .cond x a b,ρ,_,_,_,h=>by
  simp only[wp] at h
  obtain⟨t,hx,h⟩:=brV_bool h
  exact W_cond hx (fun e=>wp_W a (h.1 e)) (fun e=>wp_W b (h.2 e))
 | .block id c,_,_,_,_,h=>W_block (wp_W c h)
 | .exit id,_,_,_,_,h=>W_exit h
 | .scope c,_,_,_,_,h=>W_scope (wp_W c h)
 | .label,_,_,_,_,h=>W_label h
 | .ret,_,_,_,_,h=>W_ret h
 | .stuck,_,_,_,_,h=>h.elim
 | .draw l,_,_,_,_,h=>W_draw h
 | .loop c,_,_,_,_,h=>h
 | .rangeF g ps a b,_,_,_,_,h=>h
section rules
variable {P : Program}
theorem z01 {f:Nat} {s:LC} {n:Nat} {rs:List RRes} (hf:z0f P f=some ⟨n,s.r,rs⟩) (hok:s.ok=true) {args:List LV} {G:z03} {K:LV→z03→Prop} (hn:args.length≤n)
  (h:wp P f n none s (zgb args 0) [] G (endQ rs K)):z0k P (.fn f) args G K :=
 zig hf hok hn ((wp_W s h).post fun x ρ D G' k=>by
  cases x with
  | normal=>exact⟨trivial,k⟩
  | exit i=>exact k.elim
  | ret=>exact⟨trivial,k⟩)
theorem FnS.val {f:Nat} {args:List LV} {v0:LV} (hsim:v0.sim 0=true) (h:z0k P (.fn f) args [] fun v _=>v=subV [] v0):FnS P f args v0 [] :=
 .mk hsim (h.mono fun v G e=>⟨[],e,rfl,trivial⟩) (fun j ob e=>by simp at e)
theorem loop_wp {f n:Nat} {ro:Option Nat} {ρ:LEnv} {D:List Nat} {G:z03} {Q:Post} {s:LC} (I:LEnv→List Nat→z03→Nat→Prop) {N:Nat} (h0:I ρ D G N)
  (h:∀ N ρ D G,I ρ D G N→wp P f n ro s ρ D G (nxQ (fun ρ' D' G'=>∃ N',N' < N∧I ρ' D' G' N') Q)):W P f n (.loop s) ro ρ D G Q :=
 W_loop I h0 fun N ρ D G k=>wp_W s (h N ρ D G k)
theorem z0m {f n:Nat} {ro:Option Nat} {ρ:LEnv} {D:List Nat} {G:z03} {Q:Post} {s:LC} (I:LEnv→List Nat→z03→Nat→Prop) {N:Nat} (h0:I ρ D G N)
  (h:∀ (N:Nat) (ρ:LEnv) (D:List Nat) (G:z03),I ρ D G N→∀ Nx:LEnv→List Nat→z03→Prop,(∀ (ρ':LEnv) (D':List Nat) (G':z03),(∃ N',N' < N∧I ρ' D' G' N')→Nx ρ' D' G')→wp P f n ro s ρ D G (nxQ Nx Q)):W P f n (.loop s) ro ρ D G Q :=
 W_loop I h0 fun N ρ D G k=>wp_W s (h N ρ D G k (fun ρ' D' G'=>∃ N',N' < N∧I ρ' D' G' N') fun _ _ _ e=>e)
end rules
section congr
variable {P : Program} {ρ ρ' : LEnv} {G G' : z03} {x x' y y' : LV} {K : LV → z03 → Prop} {Kv : LV → Prop}
@[congr] theorem W_congr {f n:Nat} {s:LC} {ro:Option Nat} {D:List Nat} {Q:Post} (h1:ρ=ρ') (h2:G=G'):W P f n s ro ρ D G Q=W P f n s ro ρ' D G' Q:=by rw[h1,h2]
@[congr] theorem wp_congr {f n:Nat} {s:LC} {ro:Option Nat} {D:List Nat} {Q:Post} (h1:ρ=ρ') (h2:G=G'):wp P f n ro s ρ D G Q=wp P f n ro s ρ' D G' Q:=by rw[h1,h2]
@[congr] theorem CallL_congr {t:LTgt} {a a':List LV} (h1:a=a') (h2:G=G'):z0k P t a G K=z0k P t a' G' K:=by rw[h1,h2]
@[congr] theorem binL_congr {op:BinOp} {g:Bool} {t:TypeId} (h1:x=x') (h2:y=y'):binL P op g t x y Kv=binL P op g t x' y' Kv:=by rw[h1,h2]
@[congr] theorem unL_congr {op:UnOp} (h1:x=x'):unL op x Kv=unL op x' Kv:=by rw[h1]
@[congr] theorem cvL_congr {k:IntKind} (h1:x=x'):cvL k x Kv=cvL k x' Kv:=by rw[h1]
@[congr] theorem readL_congr {n:Nat} {K:List LV→Prop} (h1:G=G') (h2:x=x'):zcg G x n K=zcg G' x' n K:=by rw[h1,h2]
@[congr] theorem read1_congr (h1:G=G') (h2:x=x'):zco G x Kv=zco G' x' Kv:=by rw[h1,h2]
@[congr] theorem nthL_congr {l l':List LV} {i i':Nat} (h1:l=l') (h2:i=i'):nthL l i Kv=nthL l' i' Kv:=by rw[h1,h2]
@[congr] theorem writeL_congr {r r':List LV} {K:z03→Prop} (h1:G=G') (h2:x=x') (h3:r=r'):z4s G x r K=z4s G' x' r' K:=by rw[h1,h2,h3]
@[congr] theorem rowL_congr {n:Nat} {K:Nat→List LV→Prop} (h1:G=G') (h2:x=x'):rowL G n x K=rowL G' n x' K:=by rw[h1,h2]
@[congr] theorem lenL_congr {K:Nat→Prop} (h1:G=G') (h2:x=x'):lenL G x K=lenL G' x' K:=by rw[h1,h2]
@[congr] theorem appL_congr {size n n':Nat} {l l':List LV} (h1:G=G') (h2:x=x') (h3:n=n') (h4:l=l'):appL G size x n l K=appL G' size x' n' l' K:=by rw[h1,h2,h3,h4]
@[congr] theorem brL_congr {t t':Bool} {A B:Prop} (h:t=t'):brL t A B=brL t' A B:=by rw[h]
@[congr] theorem brG_congr {A B Z:Prop} (h:x=x'):brG x A B Z=brG x' A B Z:=by rw[h]
@[congr] theorem brV_congr {A B:Prop} (h:x=x'):brV x A B=brV x' A B:=by rw[h]
end congr
theorem zlf {t:Bool} {A B:Prop}:brV (.bool t) A B=brL t A B:=(rfl)
theorem zq8 {t:Bool} {A B Z:Prop}:brG (.bool t) A B Z=brL t A B:=(rfl)
theorem zw5 {A B Z:Prop}:brG (.tup []) A B Z=Z:=(rfl)
theorem zk0 {A B:Prop}:brL true A B=A:=by simp[brL]
theorem zff {A B:Prop}:brL false A B=B:=by simp[brL]
theorem brL_dec {p:Prop} [Decidable p] {A B:Prop}:brL (decide p) A B=((p→A)∧(¬ p→B)):=by simp[brL]
theorem zwf {b:Bool} {A B:Prop}:brL (!b) A B=brL b B A:=by cases b <;> simp[brL]
theorem zl7 (v:LV) (l:List LV) (K:LV→Prop):nthL (v::l) 0 K=K v:=by simp[nthL]
theorem zlx (v:LV) (l:List LV) (i:Nat) (K:LV→Prop):nthL (v::l) (i+1) K=nthL l i K:=by simp[nthL]
theorem zqo {α:Type} (f:α→LV) (d:α) (l:List α) (i:Nat) (K:LV→Prop):nthL (l.map f) i K=(i < l.length∧K (f (l.getD i d))):=by
 unfold nthL
 by_cases h:i < l.length
 ·simp[h]
 ·simp[h]
theorem nthL_u (l:List UInt64) (i:Nat) (K:LV→Prop):nthL (l.map .u) i K=(i < l.length∧K (.u (l.getD i 0))):=zqo _ _ _ _ _
def atC (o:Option LObj) (K:List LV→Nat→Prop):Prop:=match o with
 | some (.cells l st)=>K l st
 | _=>False
def atD (o:Option LObj) (K:List LV→Nat→Nat→Nat→Nat→Prop):Prop:=match o with
 | some (.dyn l len esz ver st)=>K l len esz ver st
 | _=>False
def zgf (o:Option (List LV)) (K:List LV→Prop):Prop:=match o with
 | some l=>K l
 | none=>False
def zjq (c a b:LV) (K:LV→Prop):Prop:=match c with
 | .bool t=>match a,b with
  | .bool x,.bool y=>K (.bool (match t with | true=>x | false=>y))
  | x,y=>brL t (K x) (K y)
 | _=>False
def chkL (x:LV) (K:LV→Prop):Prop:=match x with
 | .ptr p i=>K (.ptr p i)
 | .dptr p k i=>K (.dptr p k i)
 | .cptr l i=>K (.cptr l i)
 | .fn (.func f) a b=>K (.fn (.func f) a b)
 | _=>False
def zt9 (x y:LV) (K:Nat→Prop):Prop:=match x,y with
 | .i l,.i c=>l=c∧0≤l∧l≤1048576∧K l.toNat
 | _,_=>False
def bndV (x:LV) (K:Nat→Prop):Prop:=match x with
 | .i n=>0≤n∧K n.toNat
 | .u n=>K n.toNat
 | _=>False
def slL (G:z03) (size:Nat) (x:LV) (lo:(Nat→Prop)→Prop) (hi:Nat→(Nat→Prop)→Prop) (K:LV→Prop):Prop:=match x with
 | .nilSl=>lo fun a=>hi 0 fun b=>a=0∧b=0∧K .nilSl
 | .dy p k=>atD G[p]? fun _ len esz ver _=>k=ver∧esz=size∧lo fun a=>hi len fun b=>a≤b∧b≤len∧K (.vw p k a (b - a))
 | .vw p k l0 len=>atD G[p]? fun _ _ esz ver _=>k=ver∧esz=size∧lo fun a=>hi len fun b=>a≤b∧b≤len∧K (.vw p k (l0+a) (b - a))
 | .lst l len esz=>esz=size∧lo fun a=>hi len fun b=>a≤b∧b≤len∧K (.lst ((l.drop (a * esz)).take ((b - a) * esz)) (b - a) esz)
 | _=>False
def offL (off:Nat) (x:LV) (K:LV→Prop):Prop:=match x with
 | .ptr p i=>K (.ptr p (i+off))
 | .dptr p k i=>K (.dptr p k (i+off))
 | .cptr l i=>K (.cptr l (i+off))
 | _=>False
def fldL (g:Bool) (n off:Nat) (x:LV) (K:LV→Prop):Prop:=match x with
 | .agg l=>match g with
  | true=>off+n≤l.length∧K (.agg ((l.drop off).take n))
  | false=>nthL l off K
 | _=>False
def ixV (G:z03) (size:Nat) (x:LV) (n:Int) (K:LV→Prop):Prop:=match x with
 | .dy p k=>atD G[p]? fun _ len esz ver _=>k=ver∧esz=size∧0≤n∧n < len∧K (.dptr p k (n.toNat * size))
 | .vw p k lo len=>atD G[p]? fun _ _ esz ver _=>k=ver∧esz=size∧0≤n∧n < len∧K (.dptr p k ((lo+n.toNat) * size))
 | .lst l len esz=>esz=size∧0≤n∧n < len∧K (.cptr l (n.toNat * size))
 | _=>False
def ixL (G:z03) (size:Nat) (x i:LV) (K:LV→Prop):Prop:=match i with
 | .i n=>ixV G size x n K
 | .u n=>ixV G size x (n.toNat:Int) K
 | _=>False
def tupL (i:Nat) (x:LV) (K:LV→Prop):Prop:=match x with
 | .tup l=>nthL l i K
 | _=>False
def maxL (mx:Bool) (x y:LV) (K:LV→Prop):Prop:=match x,y with
 | .i a,.i b=>K (.i (match mx with | true=>max a b | false=>min a b))
 | .u a,.u b=>K (.u (match mx with | true=>if a < b then b else a | false=>if b < a then b else a))
 | _,_=>False
def lenZ (x:LV) (K:Nat→Prop):Prop:=match x with
 | .i n=>0≤n∧n≤1048576∧K n.toNat
 | _=>False
def zx1 (G:z03) (size:Nat) (d:LV) (n:Nat) (l:List LV) (K:LV→z03→Prop):Prop:=match d with
 | .dy p k=>atD G[p]? fun r len esz ver st=>k=ver∧esz=size∧K (.i (min n len:Nat)) (G.set p (.dyn (z0w r 0 (l.take (min n len * size))) len esz ver (st+1)))
 | .vw p k lo len=>atD G[p]? fun r len0 esz ver st=>k=ver∧esz=size∧(lo+len) * size≤r.length∧K (.i (min n len:Nat)) (G.set p (.dyn (z0w r (lo * size) (l.take (min n len * size))) len0 esz ver (st+1)))
 | _=>False
def znf (G:z03) (size:Nat) (z:List LV) (x:LV) (K:z03→Prop):Prop:=match x with
 | .vw p k lo len=>atD G[p]? fun r len0 esz ver st=>k=ver∧esz=size∧z.length=size∧(lo+len) * size≤r.length∧K (G.set p (.dyn (z0w r (lo * size) (repL z len)) len0 esz ver (st+1)))
 | _=>False
def goL (P:Program) (f:LV) (args:List LV) (G:z03) (K:LV→z03→Prop):Prop:=match f with
 | .fn (.func g) a b=>z0k P (.fn g) (a++args++b) G K
 | .fn (.yield p) [] _=>z0k P (.yield p) args G K
 | _=>False
section byOps
variable {P : Program} {ρ : LEnv} {G : z03} {K : LV → z03 → Prop} {x y c a b s d i f : Lx} {l cs z : List LV} {ps : List (Nat × Nat × Lx)} {n size len off : Nat} {lo hi : Option Lx}
theorem OpL_move:OpL P ρ G (.move x) K=K (x.ev ρ) G:=(rfl)
theorem OpL_pick:OpL P ρ G (.pick c a b) K=zjq (c.ev ρ) (a.ev ρ) (b.ev ρ) (atG K G):=(rfl)
theorem OpL_alloc:OpL P ρ G (.alloc l) K=K (.ptr G.length 0) (G++[.cells l 0]):=(rfl)
theorem OpL_box:OpL P ρ G (.box x) K=zgf (x.ev ρ).cells fun l=>K (.ptr G.length 0) (G++[.cells l 0]):=(rfl)
theorem OpL_build:OpL P ρ G (.build cs ps) K=zgf (zk4 ρ cs ps) fun l=>K (.agg l) G:=(rfl)
theorem OpL_buildSl:OpL P ρ G (.buildSl size len cs ps) K=zgf (zk4 ρ cs ps) fun l=>l.length=len * size∧K (.dy G.length 0) (G++[.dyn l len size 0 0]):=(rfl)
theorem OpL_load1:OpL P ρ G (.load1 x) K=zco G (x.ev ρ) (atG K G):=(rfl)
theorem OpL_loadN:OpL P ρ G (.loadN n x) K=zcg G (x.ev ρ) n fun l=>K (.agg l) G:=(rfl)
theorem OpL_store:OpL P ρ G (.store n x y) K=zgf (y.ev ρ).cells fun l=>l.length=n∧z4s G (x.ev ρ) l fun G'=>K (.tup []) G':=(rfl)
theorem OpL_nilChk:OpL P ρ G (.nilChk x) K=chkL (x.ev ρ) (atG K G):=(rfl)
theorem OpL_bin {op:BinOp} {g:Bool} {t:TypeId}:OpL P ρ G (.bin op g t x y) K=binL P op g t (x.ev ρ) (y.ev ρ) (atG K G):=(rfl)
theorem OpL_un {op:UnOp}:OpL P ρ G (.un op x) K=unL op (x.ev ρ) (atG K G):=(rfl)
theorem zw6 {k:IntKind}:OpL P ρ G (.cvInt k x) K=cvL k (x.ev ρ) (atG K G):=(rfl)
theorem zrh {g:Nat} {fs gs:List Lx}:OpL P ρ G (.mkFunc g fs gs) K=K (.fn (.func g) (fs.map (·.ev ρ)) (gs.map (·.ev ρ))) G:=(rfl)
theorem OpL_mkSl:OpL P ρ G (.mkSl size z a b) K=zt9 (a.ev ρ) (b.ev ρ) fun n=>z.length=size∧K (.dy G.length 0) (G++[.dyn (repL z n) n size 0 0]):=by
 simp only[OpL,zt9]
 cases a.ev ρ <;> cases b.ev ρ <;> rfl
theorem zv5 {x:Lx} {d:Nat} {K:Nat→Prop}:bndL ρ d (some x) K=bndV (x.ev ρ) K:=(rfl)
theorem zwz {d:Nat} {K:Nat→Prop}:bndL ρ d none K=K d:=(rfl)
theorem OpL_slSl:OpL P ρ G (.slSl size x lo hi) K=slL G size (x.ev ρ) (fun k=>bndL ρ 0 lo k) (fun d k=>bndL ρ d hi k) (atG K G):=by
 simp only[OpL,slL,atD]
 cases x.ev ρ <;> try rfl
 all_goals (cases G[_]? <;> try rfl)
def ixPL (len size:Nat) (x i:LV) (K:LV→Prop):Prop:=match i with
 | .i n=>0≤n∧n < len∧offL (n.toNat * size) x K
 | _=>False
def ixAL (g:Bool) (len size:Nat) (x i:LV) (K:LV→Prop):Prop:=match i with
 | .i n=>0≤n∧n < len∧fldL g size (n.toNat * size) x K
 | _=>False
theorem zkb {len size:Nat} {x i:Lx}:OpL P ρ G (.ixAddrArr len size x i) K=ixPL len size (x.ev ρ) (i.ev ρ) (atG K G):=(rfl)
theorem zvb {g:Bool} {len size:Nat} {x i:Lx}:OpL P ρ G (.ixArr g len size x i) K=ixAL g len size (x.ev ρ) (i.ev ρ) (atG K G):=(rfl)
theorem OpL_fieldAddr:OpL P ρ G (.fieldAddr off x) K=offL off (x.ev ρ) (atG K G):=(rfl)
theorem OpL_ixAddr:OpL P ρ G (.ixAddr size x i) K=ixL G size (x.ev ρ) (i.ev ρ) (atG K G):=by
 simp only[OpL,ixL,ixV,ixO,atD]
 cases i.ev ρ <;> try rfl
theorem OpL_extract:OpL P ρ G (.extract n x) K=tupL n (x.ev ρ) (atG K G):=(rfl)
theorem OpL_lenSl:OpL P ρ G (.lenSl x) K=lenL G (x.ev ρ) fun n=>K (.i n) G:=(rfl)
theorem OpL_maxi {g:Bool}:OpL P ρ G (.maxi g x y) K=maxL g (x.ev ρ) (y.ev ρ) (atG K G):=(rfl)
theorem OpL_appZ:OpL P ρ G (.appZ size z s x) K=lenZ (x.ev ρ) fun n=>z.length=size∧appL G size (s.ev ρ) n (repL z n) K:=(rfl)
theorem OpL_appG:OpL P ρ G (.appG size s x) K=rowL G size (x.ev ρ) fun n l=>n≤1048576∧appL G size (s.ev ρ) n l K:=(rfl)
theorem OpL_copy:OpL P ρ G (.copy size d x) K=rowL G size (x.ev ρ) fun n l=>zx1 G size (d.ev ρ) n l K:=by
 simp only[OpL,zx1,atD]
 congr 1
theorem OpL_clear:OpL P ρ G (.clear size z x) K=znf G size z (x.ev ρ) fun G'=>K .any G':=by
 simp only[OpL,znf,atD]
 congr 1
theorem zt1 {args:List Lx}:OpL P ρ G (.callV f args) K=goL P (f.ev ρ) (args.map (·.ev ρ)) G K:=(rfl)
end byOps
section opened
variable {P : Program} {G : z03} {p k i n size lo len off esz : Nat} {l r new : List LV} {K : List LV → Prop} {K1 : LV → Prop} {KG : z03 → Prop} {KN : Nat → Prop} {KR : Nat → List LV → Prop} {KV : LV → z03 → Prop} {KS : List UInt8 → Prop} {lof mxf : (Nat → Prop) → Prop} {hif : Nat → (Nat → Prop) → Prop}
theorem zpu {l:List LV} {st:Nat} {K:List LV→Nat→Prop}:atC (some (.cells l st)) K=K l st:=(rfl)
theorem zqn {l:List LV} {len esz ver st:Nat} {K:List LV→Nat→Nat→Nat→Nat→Prop}:atD (some (.dyn l len esz ver st)) K=K l len esz ver st:=(rfl)
theorem cellsL_some:zgf (some l) K=K l:=(rfl)
theorem zio {a b:LV}:zjq (.bool true) a b K1=K1 a:=by cases a <;> cases b <;> simp[zjq,brL]
theorem zgc {a b:LV}:zjq (.bool false) a b K1=K1 b:=by cases a <;> cases b <;> simp[zjq,brL]
theorem zna {t x:Bool}:zjq (.bool t) (.bool x) (.bool false) K1=K1 (.bool (t && x)):=by cases t <;> rfl
theorem zpo {t x:Bool}:zjq (.bool t) (.bool true) (.bool x) K1=K1 (.bool (t || x)):=by cases t <;> rfl
theorem chkL_ptr:chkL (.ptr p i) K1=K1 (.ptr p i):=(rfl)
theorem zwd {a b:Int}:zt9 (.i a) (.i b) KN=(a=b∧0≤a∧a≤1048576∧KN a.toNat):=(rfl)
theorem bndV_i {a:Int}:bndV (.i a) KN=(0≤a∧KN a.toNat):=(rfl)
theorem slL_nil:slL G size .nilSl lof hif K1=(lof fun a=>hif 0 fun b=>a=0∧b=0∧K1 .nilSl):=(rfl)
theorem slL_dy:slL G size (.dy p k) lof hif K1=(atD G[p]? fun _ len esz ver _=>k=ver∧esz=size∧lof fun a=>hif len fun b=>a≤b∧b≤len∧K1 (.vw p k a (b - a))):=(rfl)
theorem slL_vw:slL G size (.vw p k lo len) lof hif K1=(atD G[p]? fun _ _ esz ver _=>k=ver∧esz=size∧lof fun a=>hif len fun b=>a≤b∧b≤len∧K1 (.vw p k (lo+a) (b - a))):=(rfl)
theorem slL_lst:slL G size (.lst l len esz) lof hif K1=(esz=size∧lof fun a=>hif len fun b=>a≤b∧b≤len∧K1 (.lst ((l.drop (a * esz)).take ((b - a) * esz)) (b - a) esz)):=(rfl)
theorem offL_ptr:offL off (.ptr p i) K1=K1 (.ptr p (i+off)):=(rfl)
theorem offL_cptr:offL off (.cptr l i) K1=K1 (.cptr l (i+off)):=(rfl)
theorem fldL_true:fldL true n off (.agg l) K1=(off+n≤l.length∧K1 (.agg ((l.drop off).take n))):=(rfl)
theorem fldL_false:fldL false n off (.agg l) K1=nthL l off K1:=(rfl)
theorem ixL_i {x:LV} {n:Int}:ixL G size x (.i n) K1=ixV G size x n K1:=(rfl)
theorem ixL_u {x:LV} {n:UInt64}:ixL G size x (.u n) K1=ixV G size x (n.toNat:Int) K1:=(rfl)
theorem zvs {n:Int}:ixV G size (.dy p k) n K1=(atD G[p]? fun _ len esz ver _=>k=ver∧esz=size∧0≤n∧n < len∧K1 (.dptr p k (n.toNat * size))):=(rfl)
theorem zuf {n:Int}:ixV G size (.vw p k lo len) n K1=(atD G[p]? fun _ _ esz ver _=>k=ver∧esz=size∧0≤n∧n < len∧K1 (.dptr p k ((lo+n.toNat) * size))):=(rfl)
theorem zvt {n:Int}:ixV G size (.lst l len esz) n K1=(esz=size∧0≤n∧n < len∧K1 (.cptr l (n.toNat * size))):=(rfl)
theorem tupL_tup:tupL i (.tup l) K1=nthL l i K1:=(rfl)
theorem ixPL_i {len size:Nat} {x:LV} {n:Int}:ixPL len size x (.i n) K1=(0≤n∧n < len∧offL (n.toNat * size) x K1):=(rfl)
theorem ixAL_i {g:Bool} {len size:Nat} {x:LV} {n:Int}:ixAL g len size x (.i n) K1=(0≤n∧n < len∧fldL g size (n.toNat * size) x K1):=(rfl)
theorem zwv {a b:Int}:iiL .and a b K1=(0≤a∧a < 9223372036854775808∧0≤b∧b < 9223372036854775808∧K1 (.i (a.toNat &&& b.toNat:Nat))):=(rfl)
theorem zsp {a b:Int}:maxL true (.i a) (.i b) K1=K1 (.i (max a b)):=(rfl)
theorem zvw {a b:Int}:maxL false (.i a) (.i b) K1=K1 (.i (min a b)):=(rfl)
theorem lenZ_i {n:Int}:lenZ (.i n) KN=(0≤n∧n≤1048576∧KN n.toNat):=(rfl)
theorem zpf {n:Nat}:zx1 G size (.dy p k) n l KV=(atD G[p]? fun r len esz ver st=>k=ver∧esz=size∧KV (.i (min n len:Nat)) (G.set p (.dyn (z0w r 0 (l.take (min n len * size))) len esz ver (st+1)))):=(rfl)
theorem zlo {z:List LV} {KH:z03→Prop}:znf G size z (.vw p k lo len) KH=(atD G[p]? fun r len0 esz ver st=>k=ver∧esz=size∧z.length=size∧(lo+len) * size≤r.length∧KH (G.set p (.dyn (z0w r (lo * size) (repL z len)) len0 esz ver (st+1)))):=(rfl)
theorem goL_fn {g:Nat} {a b args:List LV}:goL P (.fn (.func g) a b) args G KV=z0k P (.fn g) (a++args++b) G KV:=(rfl)
theorem readL_ptr:zcg G (.ptr p i) n K=atC G[p]? fun l _=>i+n≤l.length∧K ((l.drop i).take n):=by
 simp only[zcg,atC]; cases G[p]? <;> try rfl
theorem readL_cptr:zcg G (.cptr l i) n K=(i+n≤l.length∧K ((l.drop i).take n)):=(rfl)
theorem read1_ptr:zco G (.ptr p i) K1=atC G[p]? fun l _=>nthL l i K1:=by
 simp only[zco,atC]; cases G[p]? <;> try rfl
theorem read1_dptr:zco G (.dptr p k i) K1=atD G[p]? fun l _ _ ver _=>k=ver∧nthL l i K1:=by
 simp only[zco,atD]; cases G[p]? <;> try rfl
theorem read1_cptr:zco G (.cptr l i) K1=nthL l i K1:=(rfl)
theorem writeL_ptr:z4s G (.ptr p i) r KG=atC G[p]? fun l st=>i+r.length≤l.length∧KG (G.set p (.cells (z0w l i r) (st+1))):=by
 simp only[z4s,atC]; cases G[p]? <;> try rfl
theorem writeL_dptr:z4s G (.dptr p k i) r KG=atD G[p]? fun l len esz ver st=>k=ver∧i+r.length≤l.length∧KG (G.set p (.dyn (z0w l i r) len esz ver (st+1))):=by
 simp only[z4s,atD]; cases G[p]? <;> try rfl
theorem rowL_dy:rowL G size (.dy p k) KR=atD G[p]? fun l len esz ver _=>k=ver∧esz=size∧KR len l:=by
 simp only[rowL,atD]; cases G[p]? <;> try rfl
theorem rowL_lst:rowL G size (.lst l len esz) KR=(esz=size∧KR len l):=(rfl)
theorem lenL_nil:lenL G .nilSl KN=KN 0:=(rfl)
theorem lenL_dy:lenL G (.dy p k) KN=atD G[p]? fun _ len _ ver _=>k=ver∧KN len:=by
 simp only[lenL,atD]; cases G[p]? <;> try rfl
theorem lenL_vw:lenL G (.vw p k lo len) KN=atD G[p]? fun _ _ _ ver _=>k=ver∧KN len:=by
 simp only[lenL,atD]; cases G[p]? <;> try rfl
theorem lenL_lst:lenL G (.lst l len esz) KN=KN len:=(rfl)
theorem appL_nil:appL G size .nilSl n new KV=KV (.dy G.length 0) (G++[.dyn new n size 0 0]):=(rfl)
theorem appL_dy:appL G size (.dy p k) n new KV=atD G[p]? fun l len esz ver st=>k=ver∧(esz=size∧0 < esz)∧len≤1000000000∧KV (.dy p (ver+1)) (G.set p (.dyn (l++new) (len+n) esz (ver+1) (st+1))):=by
 simp only[appL,atD]; cases G[p]? <;> try rfl
theorem appL_vw:appL G size (.vw p k lo len) n new KV=atD G[p]? fun l len0 esz ver st=>k=ver∧(esz=size∧lo=0∧0 < n)∧len≤1000000000∧if (len+n) * esz≤l.length then KV (.vw p k 0 (len+n)) (G.set p (.dyn (z0w l (len * esz) new) len0 esz ver (st+1)))∧KV (.dy G.length 0) (G++[.dyn (l.take (len * esz)++new) (len+n) size 0 0]) else len=len0∧0 < esz∧KV (.dy p (ver+1)) (G.set p (.dyn (l++new) (len+n) esz (ver+1) (st+1)))∧KV (.dy G.length 0) (G++[.dyn (l++new) (len+n) size 0 0]):=by
 simp only[appL,atD]; cases G[p]? <;> try rfl
variable {op : BinOp} {g : Bool} {t : TypeId}
theorem zto {a b:UInt64}:binL P op g t (.u a) (.u b) K1=uuL op a b K1:=(rfl)
theorem zus {a b:Int}:binL P op g t (.i a) (.i b) K1=iiL op a b K1:=(rfl)
theorem zps {a b:Bool}:binL P .neq g t (.bool a) (.bool b) K1=(eqA P g t (.bool a) (.bool b)=some (a==b)∧K1 (.bool (!(a==b)))):=(rfl)
theorem zt2 {b:Bool}:unL .not (.bool b) K1=K1 (.bool (!b)):=(rfl)
theorem cvL_ui {a:Int}:cvL .u64 (.i a) K1=K1 (.u (iU a)):=(rfl)
theorem cvL_iu {a:UInt64}:cvL .i64 (.u a) K1=(a.toNat < 9223372036854775808∧K1 (.i a.toNat)):=(rfl)
theorem zqk {l:List LV} {len esz:Nat}:binL P .eql g t (.lst l len esz) .nilSl K1=(eqA P g t .nilSl .nilSl=some true∧K1 (.bool false)∧(len=0→K1 (.bool true))):=(rfl)
end opened
section code
variable {P : Program} {f n : Nat} {ro : Option Nat} {ρ ρ' : LEnv} {D : List Nat} {G G' : z03} {Q : Post} {a b c : LC} {x : Lx} {id i t d : Nat} {l : List LI} {ds : List (LI × List (LI × Bool))} {cs : List (LI × Bool)} {K : LEnv → z03 → Prop} {KV : LV → z03 → Prop} {KL : List LV → Prop} {KG : z03 → Prop} {Nx : LEnv → List Nat → z03 → Prop} {rs : List RRes} {o : LOp} {od : Option Nat} {v w : LV} {vs : List LV} {it : LI}
theorem wp_skip:wp P f n ro .skip ρ D G Q=Q .normal ρ D G:=(rfl)
theorem wp_ops:wp P f n ro (.ops l) ρ D G Q=OpsL P l ρ G (norQ Q D):=(rfl)
theorem wp_seq:wp P f n ro (.seq a b) ρ D G Q=wp P f n ro a ρ D G (seqQ P f n ro b Q):=(rfl)
theorem wp_cond:wp P f n ro (.cond x a b) ρ D G Q=brV (x.ev ρ) (wp P f n ro a ρ D G Q) (wp P f n ro b ρ D G Q):=(rfl)
theorem wp_block:wp P f n ro (.block id c) ρ D G Q=wp P f n ro c ρ D G (blkQ id Q):=(rfl)
theorem wp_draw:wp P f n ro (.draw ds) ρ D G Q=DrL P ds ρ G (norQ Q D):=(rfl)
theorem wp_exit:wp P f n ro (.exit id) ρ D G Q=Q (.exit id) ρ D G:=(rfl)
theorem wp_ret:wp P f n ro .ret ρ D G Q=Q .ret ρ D G:=(rfl)
theorem wp_loop:wp P f n ro (.loop c) ρ D G Q=W P f n (.loop c) ro ρ D G Q:=(rfl)
theorem seqQ_n:seqQ P f n ro b Q .normal ρ D G=wp P f n ro b ρ D G Q:=(rfl)
theorem seqQ_e:seqQ P f n ro b Q (.exit i) ρ D G=Q (.exit i) ρ D G:=(rfl)
theorem seqQ_r:seqQ P f n ro b Q .ret ρ D G=Q .ret ρ D G:=(rfl)
theorem blkQ_n:blkQ id Q .normal ρ D G=Q .normal ρ D G:=(rfl)
theorem blkQ_e:blkQ id Q (.exit i) ρ D G=if i=id then Q .normal ρ D G else Q (.exit i) ρ D G:=(rfl)
theorem blkQ_r:blkQ id Q .ret ρ D G=Q .ret ρ D G:=(rfl)
theorem nxQ_n:nxQ Nx Q .normal ρ D G=Nx ρ D G:=(rfl)
theorem nxQ_e:nxQ Nx Q (.exit i) ρ D G=Q (.exit i) ρ D G:=(rfl)
theorem nxQ_r:nxQ Nx Q .ret ρ D G=Q .ret ρ D G:=(rfl)
theorem endQ_n:endQ rs KV .normal ρ D G=zm8 D G (takK ρ rs KV):=(rfl)
theorem endQ_r:endQ rs KV .ret ρ D G=zm8 D G (takK ρ rs KV):=(rfl)
theorem norQ_app:norQ Q D ρ G=Q .normal ρ D G:=(rfl)
theorem takeL_nil:zm8 [] G KG=KG G:=(rfl)
theorem takK_app:takK ρ rs KV G=resL ρ G rs (endK KV G):=(rfl)
theorem endK_app:endK KV G vs=KV (oneL vs) G:=(rfl)
theorem resL_nil:resL ρ G [] KL=KL []:=(rfl)
theorem resL_tmp:resL ρ G (.tmp t::rs) KL=resL ρ G rs (tmpK ρ t KL):=(rfl)
theorem resL_cN:resL ρ G (.cellN t n::rs) KL=zcg G (lk ρ t) n (cnK ρ G rs KL):=(rfl)
theorem tmpK_app:tmpK ρ t KL vs=KL (lk ρ t::vs):=(rfl)
theorem conK_app:conK v KL vs=KL (v::vs):=(rfl)
theorem cnK_app:cnK ρ G rs KL vs=resL ρ G rs (conK (.agg vs) KL):=(rfl)
theorem oneL_1:oneL [v]=v:=(rfl)
theorem oneL_0:oneL []=.tup []:=(rfl)
theorem oneL_2:oneL (v::w::vs)=.tup (v::w::vs):=(rfl)
theorem OpsL_nil:OpsL P [] ρ G K=K ρ G:=(rfl)
theorem OpsL_cons:OpsL P (it::l) ρ G K=ItL P it ρ G (opsK P l K):=(rfl)
theorem opsK_app:opsK P l K ρ G=OpsL P l ρ G K:=(rfl)
theorem ItL_n:ItL P ⟨od,none,o⟩ ρ G K=OpL P ρ G o (itK ρ od K):=(rfl)
theorem ItL_t:ItL P ⟨od,some (t,true),o⟩ ρ G K=brG (lk ρ t) (OpL P (setL t (.bool true) ρ) G o (itK (setL t (.bool true) ρ) od K)) (itK (setL t (.bool false) ρ) od K (.tup []) G) (itK ρ od K (.tup []) G):=(rfl)
theorem ItL_f:ItL P ⟨od,some (t,false),o⟩ ρ G K=brG (lk ρ t) (itK (setL t (.bool true) ρ) od K (.tup []) G) (OpL P (setL t (.bool false) ρ) G o (itK (setL t (.bool false) ρ) od K)) (itK ρ od K (.tup []) G):=(rfl)
theorem itK_some:itK ρ (some d) K v G=K ((d,v)::ρ) G:=(rfl)
theorem itK_none:itK ρ none K v G=K ρ G:=(rfl)
theorem atG_app:atG KV G v=KV v G:=(rfl)
theorem DrL_nil:DrL P [] ρ G K=K ρ G:=(rfl)
theorem DrL_cons:DrL P ((it,cs)::ds) ρ G K=ItL P it ρ G (drK P cs ds ρ G K):=(rfl)
theorem drK_app:drK P cs ds ρ G K ρ' G'=(cksL ρ G G' cs∧DrL P ds ρ' G' K):=(rfl)
theorem ev_t:(Lx.t i).ev ρ=lk ρ i:=(rfl)
theorem ev_c:(Lx.c v).ev ρ=v:=(rfl)
theorem argsL_nil:zgb [] i=[]:=(rfl)
theorem argsL_cons:zgb (v::vs) i=(i,v)::zgb vs (i+1):=(rfl)
theorem setL_cons:setL t v ((d,w)::ρ)=if t=d then (d,v)::ρ else (d,w)::setL t v ρ:=(rfl)
end code
section nums
variable {K : LV → Prop}
theorem zx8 {a b:UInt64}:uuL .add a b K=K (.u (addU a b)):=(rfl)
theorem zvn {a b:UInt64}:uuL .sub a b K=K (.u (subU a b)):=(rfl)
theorem zuv {a b:UInt64}:uuL .mul a b K=K (.u (mulU a b)):=(rfl)
theorem ztr {a b:UInt64}:uuL .rem a b K=(b≠0∧K (.u (modU a b))):=(rfl)
theorem zuu {a b:UInt64}:uuL .shl a b K=K (.u (shlU a b.toNat)):=(rfl)
theorem zv1 {a b:UInt64}:uuL .shr a b K=K (.u (shrU a b.toNat)):=(rfl)
theorem zvy {a b:UInt64}:uuL .and a b K=K (.u (andU a b)):=(rfl)
theorem uuL_or {a b:UInt64}:uuL .or a b K=K (.u (orU a b)):=(rfl)
theorem zuh {a b:UInt64}:uuL .xor a b K=K (.u (xorU a b)):=(rfl)
theorem zt4 {a b:UInt64}:uuL .eql a b K=K (.bool (decide (a=b))):=(rfl)
theorem zsz {a b:UInt64}:uuL .neq a b K=K (.bool (decide (a≠b))):=(rfl)
theorem zta {a b:UInt64}:uuL .lss a b K=K (.bool (decide (a < b))):=(rfl)
theorem zsn {a b:UInt64}:uuL .leq a b K=K (.bool (decide (a≤b))):=(rfl)
theorem zun {a b:UInt64}:uuL .gtr a b K=K (.bool (decide (b < a))):=(rfl)
theorem zvf {a b:UInt64}:uuL .geq a b K=K (.bool (decide (b≤a))):=(rfl)
theorem zu9 {a b:Int}:iiL .add a b K=(inI (a+b)∧K (.i (a+b))):=(rfl)
theorem ztx {a b:Int}:iiL .sub a b K=(inI (a - b)∧K (.i (a - b))):=(rfl)
theorem zuq {a b:Int}:iiL .mul a b K=(inI (a * b)∧K (.i (a * b))):=(rfl)
theorem ztj {a b:Int}:iiL .quo a b K=(b≠0∧inI (a.tdiv b)∧K (.i (a.tdiv b))):=(rfl)
theorem zuy {a b:Int}:iiL .rem a b K=(b≠0∧K (.i (a.tmod b))):=(rfl)
theorem zx9 {a b:Int}:iiL .shr a b K=(0≤a∧0≤b∧b≤64∧K (.i (a / 2 ^ b.toNat))):=(rfl)
theorem zwx {a b:Int}:iiL .eql a b K=K (.bool (decide (a=b))):=(rfl)
theorem zwi {a b:Int}:iiL .neq a b K=K (.bool (decide (a≠b))):=(rfl)
theorem zv9 {a b:Int}:iiL .lss a b K=K (.bool (decide (a < b))):=(rfl)
theorem ztm {a b:Int}:iiL .leq a b K=K (.bool (decide (a≤b))):=(rfl)
theorem zvg {a b:Int}:iiL .gtr a b K=K (.bool (decide (b < a))):=(rfl)
theorem zt3 {a b:Int}:iiL .geq a b K=K (.bool (decide (b≤a))):=(rfl)
end nums
section congr2
variable {P : Program} {G G' : z03} {x x' y y' z z' : LV} {K : LV → z03 → Prop} {Kv : LV → Prop} {n n' size : Nat}
@[congr] theorem atC_congr {o o':Option LObj} {K:List LV→Nat→Prop} (h:o=o'):atC o K=atC o' K:=by rw[h]
@[congr] theorem atD_congr {o o':Option LObj} {K:List LV→Nat→Nat→Nat→Nat→Prop} (h:o=o'):atD o K=atD o' K:=by rw[h]
@[congr] theorem cellsL_congr {o o':Option (List LV)} {K:List LV→Prop} (h:o=o'):zgf o K=zgf o' K:=by rw[h]
@[congr] theorem pickL_congr (h1:x=x') (h2:y=y') (h3:z=z'):zjq x y z Kv=zjq x' y' z' Kv:=by rw[h1,h2,h3]
@[congr] theorem chkL_congr (h1:x=x'):chkL x Kv=chkL x' Kv:=by rw[h1]
@[congr] theorem mkSlL_congr {K:Nat→Prop} (h1:x=x') (h2:y=y'):zt9 x y K=zt9 x' y' K:=by rw[h1,h2]
@[congr] theorem bndV_congr {K:Nat→Prop} (h1:x=x'):bndV x K=bndV x' K:=by rw[h1]
@[congr] theorem slL_congr {lo:(Nat→Prop)→Prop} {hi:Nat→(Nat→Prop)→Prop} (h1:G=G') (h2:x=x'):slL G size x lo hi Kv=slL G' size x' lo hi Kv:=by rw[h1,h2]
@[congr] theorem offL_congr (h1:x=x'):offL n x Kv=offL n x' Kv:=by rw[h1]
@[congr] theorem ixL_congr (h1:G=G') (h2:x=x') (h3:y=y'):ixL G size x y Kv=ixL G' size x' y' Kv:=by rw[h1,h2,h3]
@[congr] theorem ixV_congr {i i':Int} (h1:G=G') (h2:x=x') (h3:i=i'):ixV G size x i Kv=ixV G' size x' i' Kv:=by rw[h1,h2,h3]
@[congr] theorem tupL_congr (h1:x=x'):tupL n x Kv=tupL n x' Kv:=by rw[h1]
@[congr] theorem ixPL_congr {len size:Nat} (h2:x=x') (h3:y=y'):ixPL len size x y Kv=ixPL len size x' y' Kv:=by rw[h2,h3]
@[congr] theorem ixAL_congr {g:Bool} {len size:Nat} (h2:x=x') (h3:y=y'):ixAL g len size x y Kv=ixAL g len size x' y' Kv:=by rw[h2,h3]
@[congr] theorem maxL_congr {g:Bool} (h2:x=x') (h3:y=y'):maxL g x y Kv=maxL g x' y' Kv:=by rw[h2,h3]
@[congr] theorem lenZ_congr {K:Nat→Prop} (h1:x=x'):lenZ x K=lenZ x' K:=by rw[h1]
@[congr] theorem clearL_congr {z z':List LV} {KH:z03→Prop} (h1:G=G') (h2:x=x') (h3:z=z'):znf G size z x KH=znf G' size z' x' KH:=by rw[h1,h2,h3]
@[congr] theorem copyL_congr {l l':List LV} (h1:G=G') (h2:x=x') (h3:n=n') (h4:l=l'):zx1 G size x n l K=zx1 G' size x' n' l' K:=by rw[h1,h2,h3,h4]
@[congr] theorem goL_congr {l l':List LV} (h1:x=x') (h2:l=l') (h3:G=G'):goL P x l G K=goL P x' l' G' K:=by rw[h1,h2,h3]
end congr2
def LU (a:List UInt64):LV:=.lst (a.map .u) a.length 1
theorem z8b (a:List UInt64):dats (a.map LV.u)=true:=zb1 (fun _=>rfl) a
theorem dat_app (a b:List LV):dats (a++b)=(dats a && dats b):=by
 induction a with
 | nil=>simp[dats]
 | cons x a ih=>simp[dats,ih,Bool.and_assoc]
theorem zix (l r:List LV):z0w l 0 r=r++l.drop r.length:=by simp[z0w]
theorem zrb (v:LV) (l r:List LV) (i:Nat):z0w (v::l) (i+1) r=v::z0w l i r:=by
 unfold z0w
 rw[show i+1+r.length=(i+r.length)+1 from by omega]
 simp
attribute [simp] dat_app cksL ckL ckC zmo tgtL LObj.stp LObj.st zl7 zlx nthL_u lk_nil zh3 zk4 LV.cells subV subVs SelR notP shV shVs frV frVs bor bors LV.dat dats LV.scal LV.sim sims z8b zix zrb LU inI
attribute [simp] zlf zq8 zw5 zk0 zff brL_dec zwf
attribute [simp ↓] zlf zq8 zw5 zk0 zff zwf zl7 zlx nthL_u
attribute [simp ↓] OpL_move OpL_pick OpL_alloc OpL_box OpL_build OpL_buildSl OpL_load1 OpL_loadN OpL_store OpL_nilChk OpL_bin OpL_un zw6 zrh OpL_mkSl zv5 zwz OpL_slSl OpL_fieldAddr OpL_ixAddr OpL_extract OpL_lenSl OpL_maxi OpL_appZ OpL_appG OpL_copy zt1
attribute [simp] zpu zqn cellsL_some zio zgc zna zpo chkL_ptr zwd bndV_i slL_nil slL_dy slL_vw slL_lst offL_ptr offL_cptr fldL_true fldL_false ixL_i ixL_u zvs zuf zvt tupL_tup zsp zvw lenZ_i zpf goL_fn readL_ptr readL_cptr read1_ptr read1_dptr read1_cptr writeL_ptr writeL_dptr rowL_dy rowL_lst lenL_nil lenL_dy lenL_vw lenL_lst appL_nil appL_dy appL_vw zto zus zps zqk zt2 cvL_ui cvL_iu
attribute [simp ↓] zpu zqn cellsL_some zio zgc zna zpo chkL_ptr zwd bndV_i slL_nil slL_dy slL_vw slL_lst offL_ptr offL_cptr fldL_true fldL_false ixL_i ixL_u zvs zuf zvt tupL_tup zsp zvw lenZ_i zpf goL_fn readL_ptr readL_cptr read1_ptr read1_dptr read1_cptr writeL_ptr writeL_dptr rowL_dy rowL_lst lenL_nil lenL_dy lenL_vw lenL_lst appL_nil appL_dy appL_vw zto zus zps zqk zt2 cvL_ui cvL_iu
attribute [simp] wp_skip wp_ops wp_seq wp_cond wp_block wp_draw wp_exit wp_ret wp_loop seqQ_n seqQ_e seqQ_r blkQ_n blkQ_e blkQ_r nxQ_n nxQ_e nxQ_r endQ_n endQ_r norQ_app takeL_nil takK_app endK_app resL_nil resL_tmp resL_cN tmpK_app conK_app cnK_app oneL_1 oneL_0 oneL_2 OpsL_nil OpsL_cons opsK_app ItL_n ItL_t ItL_f itK_some itK_none atG_app DrL_nil DrL_cons drK_app ev_t ev_c argsL_nil argsL_cons setL_cons zx8 zvn zuv ztr zuu zv1 zvy uuL_or zuh zt4 zsz zta zsn zun zvf zu9 ztx zuq ztj zuy zx9 zwx zwi zv9 ztm zvg zt3
attribute [simp ↓] wp_skip wp_ops wp_seq wp_cond wp_block wp_draw wp_exit wp_ret wp_loop seqQ_n seqQ_e seqQ_r blkQ_n blkQ_e blkQ_r nxQ_n nxQ_e nxQ_r endQ_n endQ_r norQ_app takeL_nil takK_app endK_app resL_nil resL_tmp resL_cN tmpK_app conK_app cnK_app oneL_1 oneL_0 oneL_2 OpsL_nil OpsL_cons opsK_app ItL_n ItL_t ItL_f itK_some itK_none atG_app DrL_nil DrL_cons drK_app ev_t ev_c argsL_nil argsL_cons setL_cons zx8 zvn zuv ztr zuu zv1 zvy uuL_or zuh zt4 zsz zta zsn zun zvf zu9 ztx zuq ztj zuy zx9 zwx zwi zv9 ztm zvg zt3
attribute [simp] ixPL_i ixAL_i zwv
attribute [simp] zlo
attribute [simp ↓] OpL_clear zlo zkb zvb ixPL_i ixAL_i zwv
def keyB (o:Option Bool) (A B:Prop):Prop:=match o with
 | some b=>brL b A B
 | none=>False
def atM (o:Option LObj) (K:List (LV×LV×Nat)→Nat→Nat→Prop):Prop:=match o with
 | some (.map es ck st)=>K es ck st
 | _=>False
noncomputable def lookM (d:TypeDesc) (k z:LV) (ok:Bool) (K:LV→Prop):List (LV×LV×Nat)→Prop:=fun es=>zjw d k (zut z ok K) es
def conM (x:LV×LV×Nat) (K:List (LV×LV×Nat)→Bool→Prop):List (LV×LV×Nat)→Bool→Prop:=fun r new=>K (x::r) new
def slAL (G:z03) (n size:Nat) (x:LV) (lo:(Nat→Prop)→Prop) (hi:Nat→(Nat→Prop)→Prop) (K:LV→z03→Prop):Prop:=match x with
 | .ptr p i=>atC G[p]? fun l st=>i+n * size≤l.length∧lo fun a=>hi n fun b=>a≤b∧b≤n∧K (.lst ((l.drop (i+a * size)).take ((b - a) * size)) (b - a) size) (G.set p (.dead (st+1)))
 | _=>False
section maps
variable {P : Program} {ρ : LEnv} {G G' : z03} {K : LV → z03 → Prop} {K1 : LV → Prop} {x i m k v z x' k' : LV} {X I M V : Lx} {d : TypeDesc} {ok : Bool} {es es' : List (LV × LV × Nat)} {KE : List (LV × LV × Nat) → Prop} {KB : List (LV × LV × Nat) → Bool → Prop} {KH : z03 → Prop} {p ck st n size : Nat} {lo hi : Option Lx} {A B : Prop} {lof : (Nat → Prop) → Prop} {hif : Nat → (Nat → Prop) → Prop}
theorem OpL_mkMap0:OpL P ρ G .mkMap0 K=K (.map G.length) (G++[.map [] 0 0]):=(rfl)
theorem OpL_lookup:OpL P ρ G (.lookup d z ok X I) K=mapL G (X.ev ρ) (lookM d (I.ev ρ) z ok (atG K G)):=(rfl)
theorem OpL_mapUpd:OpL P ρ G (.mapUpd d M I V) K=znc G d (M.ev ρ) (I.ev ρ) (V.ev ρ) fun G'=>K .any G':=(rfl)
theorem OpL_slArr:OpL P ρ G (.slArr n size X lo hi) K=slAL G n size (X.ev ρ) (fun k=>bndL ρ 0 lo k) (fun d k=>bndL ρ d hi k) K:=by
 simp only[OpL,slAL,atC]
 cases X.ev ρ <;> try rfl
 all_goals (cases G[_]? <;> try rfl)
theorem zpm {K:List (LV×LV×Nat)→Nat→Nat→Prop}:atM (some (.map es ck st)) K=K es ck st:=(rfl)
theorem mapL_map:mapL G (.map p) KE=atM G[p]? fun es _ _=>KE es:=by
 simp only[mapL,atM]; cases G[p]? <;> try rfl
theorem lookM_app:lookM d k z ok K1 es=zjw d k (zut z ok K1) es:=(rfl)
theorem zls {KO:Option LV→Prop}:zjw d k KO []=KO none:=(rfl)
theorem zit {KO:Option LV→Prop}:zjw d k KO ((k',v,n)::es)=keyB (keyL d k k') (KO (some v)) (zjw d k KO es):=(rfl)
theorem lookK_st:zut z true K1 (some v)=K1 (.tup [v,.bool true]):=(rfl)
theorem lookK_nt:zut z true K1 none=K1 (.tup [z,.bool false]):=(rfl)
theorem updL'_map:znc G d (.map p) k v KH=atM G[p]? fun es ck st=>putL d k v ck (setK G p ck st KH) es:=by
 simp only[znc,atM]; cases G[p]? <;> try rfl
theorem putL_nil:putL d k v ck KB []=KB [(k,v,ck)] true:=(rfl)
theorem zlh {w:LV}:putL d k v ck KB ((k',w,n)::es)=keyB (keyL d k k') (KB ((k,v,n)::es) false) (putL d k v ck (conM (k',w,n) KB) es):=(rfl)
theorem zpx {y:LV×LV×Nat} {b:Bool}:conM y KB es b=KB (y::es) b:=(rfl)
theorem setK_t:setK G p ck st KH es true=KH (G.set p (.map es (ck+1) (st+1))):=(rfl)
theorem zlr {b:Bool}:keyB (some b) A B=brL b A B:=(rfl)
theorem keyL_i {kk:IntKind} {a b:Int}:keyL (.int kk) (.i a) (.i b)=some (decide (a=b)):=(rfl)
theorem zqc {j:Nat}:slAL G n size (.ptr p j) lof hif K=atC G[p]? fun l st=>j+n * size≤l.length∧lof fun a=>hif n fun b=>a≤b∧b≤n∧K (.lst ((l.drop (j+a * size)).take ((b - a) * size)) (b - a) size) (G.set p (.dead (st+1))):=(rfl)
@[congr] theorem atM_congr {o o':Option LObj} {K:List (LV×LV×Nat)→Nat→Nat→Prop} (h:o=o'):atM o K=atM o' K:=by rw[h]
@[congr] theorem updL'_congr {v' m':LV} (h1:G=G') (h2:m=m') (h3:k=k') (h4:v=v'):znc G d m k v KH=znc G' d m' k' v' KH:=by rw[h1,h2,h3,h4]
@[congr] theorem keyB_congr {o o':Option Bool} (h:o=o'):keyB o A B=keyB o' A B:=by rw[h]
end maps
attribute [simp] zpm mapL_map lookM_app zls zit lookK_st lookK_nt updL'_map putL_nil zlh zpx setK_t zlr keyL_i zqc
attribute [simp ↓] OpL_mkMap0 OpL_lookup OpL_mapUpd OpL_slArr zpm mapL_map lookM_app zls zit lookK_st lookK_nt updL'_map putL_nil zlh zpx setK_t zlr keyL_i zqc
abbrev LI.z (d:Nat) (o:LOp):LI:=⟨some d,none,o⟩
abbrev LI.m (d t:Nat):LI:=⟨some d,none,.move (.t t)⟩
abbrev LI.l (d t:Nat):LI:=⟨some d,none,.load1 (.t t)⟩
abbrev LI.f (d n t:Nat):LI:=⟨some d,none,.fieldAddr n (.t t)⟩
end Go.Sv
