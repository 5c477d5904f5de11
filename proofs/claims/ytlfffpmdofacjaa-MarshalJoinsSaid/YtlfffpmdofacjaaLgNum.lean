/- The logic's numbers and texts against the evaluator's. -/
import Derived.Test.YtlfffpmdofacjaaLgBase
namespace Go.Sv

theorem wrapA_u64 (n : Int) : wrapA .u64 n = n % 18446744073709551616 := by
  rw [wrapA_spec]; rfl
theorem wrapA_u8 (n : Int) : wrapA .u8 n = n % 256 := by
  rw [wrapA_spec]; rfl
theorem wrapA_i64 {n : Int} (h : inI n) : wrapA .i64 n = n := by
  rw [wrapA_spec]
  obtain ⟨h1, h2⟩ := h
  show (if (true && decide (n % 18446744073709551616 ≥ 9223372036854775808)) = true then n % 18446744073709551616 - 18446744073709551616 else n % 18446744073709551616) = n
  simp only [Bool.true_and, decide_eq_true_eq]
  split <;> omega
theorem eqI_dec (a b : Int) : eqI a b = decide (a = b) := by
  rw [eqI_spec, Bool.eq_iff_iff]; simp
theorem ltI_dec (a b : Int) : ltI a b = decide (a < b) := ltI_spec a b
theorem not_lt_dec (a b : Int) : (!(decide (b < a))) = decide (a ≤ b) := by
  rw [Bool.eq_iff_iff]; simp
theorem fullK_u64 (x : UInt64) : Nat.blt x.toNat (fullK .u64) = true := by
  have := x.toNat_lt
  unfold Nat.blt
  exact Nat.ble_eq_true_of_le (by show x.toNat + 1 ≤ 2 * 9223372036854775808; omega)
theorem fullK_u8 (x : UInt8) : Nat.blt x.toNat (fullK .u8) = true := by
  have := x.toNat_lt
  unfold Nat.blt
  exact Nat.ble_eq_true_of_le (by show x.toNat + 1 ≤ 2 * 128; omega)

variable {c : Cx} {K : LV → Prop}
theorem AR.u' {x : UInt64} {n : Int} (h : n = Int.ofNat x.toNat) : AR c (.u x) (.int .u64 n) := by subst h; exact .u x
theorem AR.b' {x : UInt8} {n : Int} (h : n = Int.ofNat x.toNat) : AR c (.b x) (.int .u8 n) := by subst h; exact .b x
theorem AR.bool' {x y : Bool} (h : y = x) : AR c (.bool x) (.bool y) := by subst h; exact .bool y

theorem dec_u_eq (a b : UInt64) : decide (Int.ofNat a.toNat = Int.ofNat b.toNat) = decide (a = b) := by
  rw [Bool.eq_iff_iff]; simp only [decide_eq_true_eq]
  constructor
  · intro h; exact UInt64.toNat_inj.1 (Int.ofNat.inj h)
  · intro h; rw [h]
theorem dec_u_lt (a b : UInt64) : decide (Int.ofNat a.toNat < Int.ofNat b.toNat) = decide (a < b) := by
  rw [Bool.eq_iff_iff]; simp only [decide_eq_true_eq, UInt64.lt_iff_toNat_lt]
  exact Int.ofNat_lt
theorem dec_u_le (a b : UInt64) : decide (Int.ofNat a.toNat ≤ Int.ofNat b.toNat) = decide (a ≤ b) := by
  rw [Bool.eq_iff_iff]; simp only [decide_eq_true_eq, UInt64.le_iff_toNat_le]
  exact Int.ofNat_le
theorem dec_b_eq (a b : UInt8) : decide (Int.ofNat a.toNat = Int.ofNat b.toNat) = decide (a = b) := by
  rw [Bool.eq_iff_iff]; simp only [decide_eq_true_eq]
  constructor
  · intro h; exact UInt8.toNat_inj.1 (Int.ofNat.inj h)
  · intro h; rw [h]
theorem dec_b_lt (a b : UInt8) : decide (Int.ofNat a.toNat < Int.ofNat b.toNat) = decide (a < b) := by
  rw [Bool.eq_iff_iff]; simp only [decide_eq_true_eq, UInt8.lt_iff_toNat_lt]
  exact Int.ofNat_lt
theorem dec_b_le (a b : UInt8) : decide (Int.ofNat a.toNat ≤ Int.ofNat b.toNat) = decide (a ≤ b) := by
  rw [Bool.eq_iff_iff]; simp only [decide_eq_true_eq, UInt8.le_iff_toNat_le]
  exact Int.ofNat_le

/-- What an operation's value stands for. -/
def VRes (c : Cx) (K : LV → Prop) (r : Option AV) : Prop := ∃ v a, r = some a ∧ AR c v a ∧ K v
theorem VRes.mk {v : LV} {a : AV} (h : AR c v a) (k : K v) : VRes c K (some a) := ⟨v, a, rfl, h, k⟩

theorem shl_u (a : UInt64) (s : Nat) : wrapA .u64 (.ofNat (Nat.mul a.toNat (Nat.pow 2 (minN s (IntKind.bits .u64))))) = Int.ofNat (shlU a s).toNat := by
  rw [wrapA_u64]
  have hm : minN s (IntKind.bits .u64) = min s 64 := by
    unfold minN
    by_cases h : s ≤ 64
    · rw [show Nat.ble s (IntKind.bits .u64) = true from Nat.ble_eq_true_of_le h]; simp [Nat.min_eq_left h]
    · have : Nat.ble s (IntKind.bits .u64) = false := by
        cases hb : Nat.ble s (IntKind.bits .u64) with
        | false => rfl
        | true => exact absurd (Nat.le_of_ble_eq_true hb) h
      rw [this]; simp only [IntKind.bits]; omega
  rw [hm]
  rw [shlU_eq, UInt64.toNat_ofNat']
  show (Int.ofNat (a.toNat * 2 ^ min s 64)) % 18446744073709551616 = Int.ofNat (a.toNat * 2 ^ s % 2 ^ 64)
  by_cases h : s ≤ 64
  · rw [Nat.min_eq_left h]
    rfl
  · rw [Nat.min_eq_right (by omega)]
    have e : 2 ^ s = 2 ^ 64 * 2 ^ (s - 64) := by rw [← Nat.pow_add]; congr 1; omega
    have : a.toNat * 2 ^ s % 2 ^ 64 = 0 := by
      rw [e, ← Nat.mul_assoc, Nat.mul_comm a.toNat, Nat.mul_assoc, Nat.mul_mod_right]
    rw [this]
    have h2 : a.toNat * 2 ^ 64 % 2 ^ 64 = 0 := Nat.mul_mod_left _ _
    show Int.ofNat (a.toNat * 2 ^ 64 % 2 ^ 64) = 0
    rw [h2]; rfl
theorem shr_u (a : UInt64) (s : Nat) : Int.ofNat (Nat.div a.toNat (Nat.pow 2 (minN s (IntKind.bits .u64)))) = Int.ofNat (shrU a s).toNat := by
  have hm : minN s (IntKind.bits .u64) = min s 64 := by
    unfold minN
    by_cases h : s ≤ 64
    · rw [show Nat.ble s (IntKind.bits .u64) = true from Nat.ble_eq_true_of_le h]; simp [Nat.min_eq_left h]
    · have : Nat.ble s (IntKind.bits .u64) = false := by
        cases hb : Nat.ble s (IntKind.bits .u64) with
        | false => rfl
        | true => exact absurd (Nat.le_of_ble_eq_true hb) h
      rw [this]; simp only [IntKind.bits]; omega
  rw [hm]
  rw [shrU_eq, UInt64.toNat_ofNat']
  have hlt := a.toNat_lt
  show Int.ofNat (a.toNat / 2 ^ min s 64) = Int.ofNat (a.toNat / 2 ^ s % 2 ^ 64)
  have h1 : a.toNat / 2 ^ s % 2 ^ 64 = a.toNat / 2 ^ s := Nat.mod_eq_of_lt (Nat.lt_of_le_of_lt (Nat.div_le_self _ _) hlt)
  rw [h1]
  by_cases h : s ≤ 64
  · rw [Nat.min_eq_left h]
  · rw [Nat.min_eq_right (by omega), Nat.div_eq_of_lt hlt]
    rw [Nat.div_eq_of_lt (Nat.lt_of_lt_of_le hlt (Nat.pow_le_pow_right (by omega) (by omega)))]

theorem uuL_ok {P : Program} {op : BinOp} {g : Bool} {t : TypeId} {a b : UInt64} (h : uuL op a b K) : VRes c K (binA P op g t (.int .u64 (Int.ofNat a.toNat)) (.int .u64 (Int.ofNat b.toNat))) := by
  have hk : kindEq .u64 .u64 = true := rfl
  have hla := a.toNat_lt
  have hlb := b.toNat_lt
  cases op <;> simp only [uuL, addU_eq, subU_eq, mulU_eq, divU_eq, modU_eq, andU_eq, orU_eq, xorU_eq, notU_eq] at h <;> simp only [binA, hk, arith, bitsA, shiftA, fullK_u64]
  case add => exact .mk (.u' (by rw [wrapA_u64, UInt64.toNat_add]; rfl)) h
  case sub =>
    refine .mk (.u' ?_) h
    rw [wrapA_u64, UInt64.toNat_sub]
    show (Int.ofNat a.toNat - Int.ofNat b.toNat) % _ = ((2 ^ 64 - b.toNat + a.toNat) % 2 ^ 64 : Nat)
    simp only [Int.ofNat_eq_natCast]
    omega
  case mul => exact .mk (.u' (by rw [wrapA_u64, UInt64.toNat_mul]; rfl)) h
  case quo =>
    obtain ⟨h1, h2⟩ := h
    have hz : isZ (Int.ofNat b.toNat) = false := by
      unfold isZ
      cases hb : Nat.beq b.toNat 0 with
      | false => exact hb
      | true => exact absurd (UInt64.toNat_inj.1 (Nat.eq_of_beq_eq_true hb)) h1
    simp only [hz]
    refine .mk (.u' ?_) h2
    rw [wrapA_u64, UInt64.toNat_div]
    show (Int.tdiv (Int.ofNat a.toNat) (Int.ofNat b.toNat)) % _ = Int.ofNat (a.toNat / b.toNat)
    have : Int.tdiv (Int.ofNat a.toNat) (Int.ofNat b.toNat) = Int.ofNat (a.toNat / b.toNat) := rfl
    rw [this]
    exact Int.emod_eq_of_lt (Int.natCast_nonneg _) (by have := Nat.div_le_self a.toNat b.toNat; simp only [Int.ofNat_eq_natCast]; omega)
  case rem =>
    obtain ⟨h1, h2⟩ := h
    have hz : isZ (Int.ofNat b.toNat) = false := by
      unfold isZ
      cases hb : Nat.beq b.toNat 0 with
      | false => exact hb
      | true => exact absurd (UInt64.toNat_inj.1 (Nat.eq_of_beq_eq_true hb)) h1
    simp only [hz]
    exact .mk (.u' (by rw [UInt64.toNat_mod]; rfl)) h2
  case and =>
    refine .mk (.u' ?_) h
    rw [wrapA_u64, UInt64.toNat_and]
    have : a.toNat &&& b.toNat < 2 ^ 64 := Nat.and_lt_two_pow _ hlb
    exact Int.emod_eq_of_lt (Int.natCast_nonneg _) (by show Int.ofNat (a.toNat &&& b.toNat) < _; simp only [Int.ofNat_eq_natCast]; omega)
  case or =>
    refine .mk (.u' ?_) h
    rw [wrapA_u64, UInt64.toNat_or]
    have : a.toNat ||| b.toNat < 2 ^ 64 := Nat.or_lt_two_pow hla hlb
    exact Int.emod_eq_of_lt (Int.natCast_nonneg _) (by show Int.ofNat (a.toNat ||| b.toNat) < _; simp only [Int.ofNat_eq_natCast]; omega)
  case xor =>
    refine .mk (.u' ?_) h
    rw [wrapA_u64, UInt64.toNat_xor]
    have : a.toNat ^^^ b.toNat < 2 ^ 64 := Nat.xor_lt_two_pow hla hlb
    exact Int.emod_eq_of_lt (Int.natCast_nonneg _) (by show Int.ofNat (a.toNat ^^^ b.toNat) < _; simp only [Int.ofNat_eq_natCast]; omega)
  case andNot =>
    refine .mk (.u' ?_) h
    have e : Nat.xor a.toNat (Nat.land a.toNat b.toNat) = (a &&& ~~~b).toNat := by
      show a.toNat ^^^ (a.toNat &&& b.toNat) = _
      rw [UInt64.toNat_and, UInt64.toNat_not]
      refine Nat.eq_of_testBit_eq fun i => ?_
      rw [Nat.testBit_xor, Nat.testBit_and, Nat.testBit_and]
      have : (UInt64.size - 1 - b.toNat).testBit i = (decide (i < 64) && !b.toNat.testBit i) := by
        have := Nat.testBit_two_pow_sub_succ hlb i
        rw [show UInt64.size - 1 - b.toNat = 2 ^ 64 - (b.toNat + 1) from by show 18446744073709551616 - 1 - b.toNat = _; omega, this]
      rw [this]
      by_cases hi : i < 64
      · simp [hi]; cases a.toNat.testBit i <;> cases b.toNat.testBit i <;> rfl
      · have : a.toNat.testBit i = false := Nat.testBit_lt_two_pow (Nat.lt_of_lt_of_le hla (Nat.pow_le_pow_right (by omega) (by omega)))
        simp [this]
    rw [e, wrapA_u64]
    exact Int.emod_eq_of_lt (Int.natCast_nonneg _) (by have := (a &&& ~~~b).toNat_lt; simp only [Int.ofNat_eq_natCast]; omega)
  case shl => exact .mk (.u' (shl_u a b.toNat)) h
  case shr => exact .mk (.u' (shr_u a b.toNat)) h
  case eql => exact .mk (.bool' (by rw [eqI_dec, dec_u_eq])) h
  case neq => exact .mk (.bool' (by rw [eqI_dec, dec_u_eq]; simp)) h
  case lss => exact .mk (.bool' (by rw [ltI_dec, dec_u_lt])) h
  case leq => exact .mk (.bool' (by rw [ltI_dec, not_lt_dec, dec_u_le])) h
  case gtr => exact .mk (.bool' (by rw [ltI_dec, dec_u_lt])) h
  case geq => exact .mk (.bool' (by rw [ltI_dec, not_lt_dec, dec_u_le])) h

theorem bbL_ok {P : Program} {op : BinOp} {g : Bool} {t : TypeId} {a b : UInt8} (h : bbL op a b K) : VRes c K (binA P op g t (.int .u8 (Int.ofNat a.toNat)) (.int .u8 (Int.ofNat b.toNat))) := by
  have hk : kindEq .u8 .u8 = true := rfl
  have hla := a.toNat_lt
  have hlb := b.toNat_lt
  cases op <;> simp only [bbL, addB_eq, subB_eq, andB_eq, orB_eq] at h <;> simp only [binA, hk, arith, bitsA, fullK_u8]
  case add => exact .mk (.b' (by rw [wrapA_u8, UInt8.toNat_add]; rfl)) h
  case sub =>
    refine .mk (.b' ?_) h
    rw [wrapA_u8, UInt8.toNat_sub]
    show (Int.ofNat a.toNat - Int.ofNat b.toNat) % _ = ((2 ^ 8 - b.toNat + a.toNat) % 2 ^ 8 : Nat)
    simp only [Int.ofNat_eq_natCast]
    omega
  case and =>
    refine .mk (.b' ?_) h
    rw [wrapA_u8, UInt8.toNat_and]
    have : a.toNat &&& b.toNat < 2 ^ 8 := Nat.and_lt_two_pow _ hlb
    exact Int.emod_eq_of_lt (Int.natCast_nonneg _) (by show Int.ofNat (a.toNat &&& b.toNat) < _; simp only [Int.ofNat_eq_natCast]; omega)
  case or =>
    refine .mk (.b' ?_) h
    rw [wrapA_u8, UInt8.toNat_or]
    have : a.toNat ||| b.toNat < 2 ^ 8 := Nat.or_lt_two_pow hla hlb
    exact Int.emod_eq_of_lt (Int.natCast_nonneg _) (by show Int.ofNat (a.toNat ||| b.toNat) < _; simp only [Int.ofNat_eq_natCast]; omega)
  case eql => exact .mk (.bool' (by rw [eqI_dec, dec_b_eq])) h
  case neq => exact .mk (.bool' (by rw [eqI_dec, dec_b_eq]; simp)) h
  case lss => exact .mk (.bool' (by rw [ltI_dec, dec_b_lt])) h
  case leq => exact .mk (.bool' (by rw [ltI_dec, not_lt_dec, dec_b_le])) h
  case gtr => exact .mk (.bool' (by rw [ltI_dec, dec_b_lt])) h
  case geq => exact .mk (.bool' (by rw [ltI_dec, not_lt_dec, dec_b_le])) h

theorem AR.i' {x n : Int} (h : n = x) : AR c (.i x) (.int .i64 n) := by subst h; exact .i n
theorem isZ_false {b : Int} (h : b ≠ 0) : isZ b = false := by
  unfold isZ
  split
  · rename_i n
    cases hb : Nat.beq n 0 with
    | false => rfl
    | true => exact absurd (by rw [Nat.eq_of_beq_eq_true hb]; rfl) h
  · rfl
theorem shift_i {P : Program} {g : Bool} {t : TypeId} {a : Int} {k : IntKind} {s : Int} (ha : 0 ≤ a) (h0 : 0 ≤ s) (h64 : s ≤ 64) :
    binA P .shl g t (.int .i64 a) (.int k s) = some (.int .i64 (wrapA .i64 (a * 2 ^ s.toNat))) ∧ binA P .shr g t (.int .i64 a) (.int k s) = some (.int .i64 (a / 2 ^ s.toNat)) := by
  obtain ⟨x, rfl⟩ := Int.eq_ofNat_of_zero_le ha
  obtain ⟨y, rfl⟩ := Int.eq_ofNat_of_zero_le h0
  have hm : minN y (IntKind.bits .i64) = y := by
    unfold minN
    rw [show Nat.ble y (IntKind.bits .i64) = true from Nat.ble_eq_true_of_le (by simp only [IntKind.bits]; omega)]
  constructor
  · show some (AV.int .i64 (wrapA .i64 (.ofNat (Nat.mul x (Nat.pow 2 (minN y (IntKind.bits .i64))))))) = _
    rw [hm]
    congr 3
  · show some (AV.int .i64 (.ofNat (Nat.div x (Nat.pow 2 (minN y (IntKind.bits .i64)))))) = _
    rw [hm]
    congr 2
theorem iiL_ok {P : Program} {op : BinOp} {g : Bool} {t : TypeId} {a b : Int} (h : iiL op a b K) : VRes c K (binA P op g t (.int .i64 a) (.int .i64 b)) := by
  have hk : kindEq .i64 .i64 = true := rfl
  cases op <;> simp only [iiL] at h
  case shl =>
    obtain ⟨h1, h2, h3, h4, h5⟩ := h
    rw [(shift_i h1 h2 h3).1, wrapA_i64 h4]
    exact .mk (.i _) h5
  case shr =>
    obtain ⟨h1, h2, h3, h5⟩ := h
    rw [(shift_i h1 h2 h3).2]
    exact .mk (.i _) h5
  all_goals simp only [binA, hk, arith]
  case add => exact .mk (.i' (wrapA_i64 h.1)) h.2
  case sub => exact .mk (.i' (wrapA_i64 h.1)) h.2
  case mul => exact .mk (.i' (wrapA_i64 h.1)) h.2
  case quo => rw [isZ_false h.1]; exact .mk (.i' (wrapA_i64 h.2.1)) h.2.2
  case rem => rw [isZ_false h.1]; exact .mk (.i _) h.2
  case eql => exact .mk (.bool' (by rw [eqI_dec])) h
  case neq => exact .mk (.bool' (by rw [eqI_dec]; simp)) h
  case lss => exact .mk (.bool' (by rw [ltI_dec])) h
  case leq => exact .mk (.bool' (by rw [ltI_dec, not_lt_dec])) h
  case gtr => exact .mk (.bool' (by rw [ltI_dec])) h
  case geq => exact .mk (.bool' (by rw [ltI_dec, not_lt_dec])) h
theorem kkL_ok {P : Program} {op : BinOp} {g : Bool} {t : TypeId} {k : IntKind} {a b : Int} (h : kkL op a b K) : VRes c K (binA P op g t (.int k a) (.int k b)) := by
  have hk : kindEq k k = true := by cases k <;> rfl
  cases op <;> simp only [kkL] at h <;> simp only [binA, hk, arith]
  case eql => exact .mk (.bool' (by rw [eqI_dec])) h
  case neq => exact .mk (.bool' (by rw [eqI_dec]; simp)) h
  case lss => exact .mk (.bool' (by rw [ltI_dec])) h
  case leq => exact .mk (.bool' (by rw [ltI_dec, not_lt_dec])) h
  case gtr => exact .mk (.bool' (by rw [ltI_dec])) h
  case geq => exact .mk (.bool' (by rw [ltI_dec, not_lt_dec])) h
theorem str_eq (a b : List UInt8) : (Nat.beq a.length b.length && Nat.beq (packL a) (packL b)) = decide (a = b) := by
  rw [Bool.eq_iff_iff]
  simp only [Bool.and_eq_true, decide_eq_true_eq]
  constructor
  · rintro ⟨h1, h2⟩
    exact packL_inj (Nat.eq_of_beq_eq_true h1) (Nat.eq_of_beq_eq_true h2)
  · intro h; subst h; simp
theorem AR.str' {l : List UInt8} {n m : Nat} (h1 : n = l.length) (h2 : m = packL l) : AR c (.str l) (.str n m) := by subst h1 h2; exact .str l
theorem ssL_ok {P : Program} {op : BinOp} {g : Bool} {t : TypeId} {a b : List UInt8} (h : ssL op a b K) : VRes c K (binA P op g t (.str a.length (packL a)) (.str b.length (packL b))) := by
  cases op <;> simp only [ssL] at h <;> simp only [binA, strOp]
  case add =>
    have hb : Nat.ble (Nat.add a.length b.length) lim = true := Nat.ble_eq_true_of_le h.1
    simp only [hb]
    refine .mk (.str' (by simp) ?_) h.2
    rw [packL_append]; rfl
  case eql => exact .mk (.bool' (str_eq a b)) h
  case neq => exact .mk (.bool' (by rw [str_eq]; simp)) h
theorem nilL_ok {P : Program} {op : BinOp} {g : Bool} {t : TypeId} {a b : AV} {r : Bool} (hb : binA P op g t a b = match op with | .eql => yesB (eqA P g t a b) | .neq => notB (eqA P g t a b) | _ => none) (h : nilL P op g t a b r K) : VRes c K (binA P op g t a b) := by
  rw [hb]
  cases op <;> simp only [nilL] at h
  case eql => rw [h.1]; exact .mk (.bool _) h.2
  case neq => rw [h.1]; exact .mk (.bool _) h.2
end Go.Sv
