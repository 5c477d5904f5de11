/- Each operation of the evaluator's against the model's: numbers, texts, equality. -/
import Derived.Test.YtnlnmpjdcopngaaGreatSvOpsA
import Derived.Laws.Strings
import Derived.Laws.StructEq
namespace Go.Sv
open Go.RowKit (Below)

theorem kindEq_spec {k k' : IntKind} (h : kindEq k k' = true) : k = k' := by
  cases k <;> cases k' <;> first | rfl | (exact absurd h (by decide))
theorem eqI_spec (a b : Int) : eqI a b = (a == b) := by
  cases a <;> cases b
  · rename_i x y; show Nat.beq x y = _; rw [Bool.eq_iff_iff]; simp [Nat.beq_eq]; omega
  · show false = _; symm; rw [beq_eq_false_iff_ne]; intro h; cases h
  · show false = _; symm; rw [beq_eq_false_iff_ne]; intro h; cases h
  · rename_i x y; show Nat.beq x y = _; rw [Bool.eq_iff_iff]; simp [Nat.beq_eq]
theorem nblt {a b : Nat} : Nat.blt a b = decide (a < b) := by
  rw [Bool.eq_iff_iff]; simp [Nat.blt, Nat.ble_eq]; omega
theorem ltI_spec (a b : Int) : ltI a b = decide (a < b) := by
  cases a <;> cases b
  · rename_i x y; show Nat.blt x y = _; rw [nblt, decide_eq_decide]; simp
  · rename_i x y; show false = _; symm; rw [decide_eq_false_iff_not]; have := Int.negSucc_lt_zero y; simp; omega
  · rename_i x y; show true = _; symm; rw [decide_eq_true_iff]; have := Int.negSucc_lt_zero x; simp; omega
  · rename_i x y; show Nat.blt y x = _; rw [nblt, decide_eq_decide]; omega
theorem two_pow_bits (k : IntKind) : 2 ^ k.bits = fullK k := by cases k <;> rfl
theorem wrapA_spec (k : IntKind) (n : Int) : wrapA k n = k.wrap n := by
  cases n with
  | negSucc m => rfl
  | ofNat m =>
    unfold wrapA
    dsimp only
    split
    · rename_i h
      have h' : m < halfK k := by rw [nblt] at h; simpa using h
      cases k <;> simp only [halfK] at h' <;> simp only [IntKind.wrap, IntKind.bits, IntKind.signed] <;> simp <;> omega
    · rfl
theorem isZ_spec (b : Int) : isZ b = true ↔ b = 0 := by
  cases b with
  | ofNat n => simp [isZ, Nat.beq_eq]
  | negSucc n => simp [isZ]

section bits
variable {k : IntKind} {x y : Nat}
theorem ofInt_nat (w x : Nat) : BitVec.ofInt w (Int.ofNat x) = BitVec.ofNat w x := by
  show BitVec.ofInt w ((x : Nat) : Int) = _
  exact BitVec.ofInt_natCast w x
theorem bits_and (hx : x < fullK k) (hy : y < fullK k) : (BitVec.ofInt k.bits (Int.ofNat x) &&& BitVec.ofInt k.bits (Int.ofNat y)).toNat = Nat.land x y := by
  rw [← two_pow_bits] at hx hy
  rw [ofInt_nat, ofInt_nat, BitVec.toNat_and, BitVec.toNat_ofNat, BitVec.toNat_ofNat, Nat.mod_eq_of_lt hx, Nat.mod_eq_of_lt hy]; rfl
theorem bits_or (hx : x < fullK k) (hy : y < fullK k) : (BitVec.ofInt k.bits (Int.ofNat x) ||| BitVec.ofInt k.bits (Int.ofNat y)).toNat = Nat.lor x y := by
  rw [← two_pow_bits] at hx hy
  rw [ofInt_nat, ofInt_nat, BitVec.toNat_or, BitVec.toNat_ofNat, BitVec.toNat_ofNat, Nat.mod_eq_of_lt hx, Nat.mod_eq_of_lt hy]; rfl
theorem bits_xor (hx : x < fullK k) (hy : y < fullK k) : (BitVec.ofInt k.bits (Int.ofNat x) ^^^ BitVec.ofInt k.bits (Int.ofNat y)).toNat = Nat.xor x y := by
  rw [← two_pow_bits] at hx hy
  rw [ofInt_nat, ofInt_nat, BitVec.toNat_xor, BitVec.toNat_ofNat, BitVec.toNat_ofNat, Nat.mod_eq_of_lt hx, Nat.mod_eq_of_lt hy]; rfl
theorem bits_andNot (hx : x < fullK k) (_hy : y < fullK k) :
    (BitVec.ofInt k.bits (Int.ofNat x) &&& ~~~(BitVec.ofInt k.bits (Int.ofNat y))).toNat = Nat.xor x (Nat.land x y) := by
  rw [← two_pow_bits] at hx
  rw [ofInt_nat, ofInt_nat]
  apply Nat.eq_of_testBit_eq
  intro i
  rw [BitVec.testBit_toNat, BitVec.getLsbD_and, BitVec.getLsbD_not, BitVec.getLsbD_ofNat, BitVec.getLsbD_ofNat]
  show _ = (x ^^^ (x &&& y)).testBit i
  rw [Nat.testBit_xor, Nat.testBit_and]
  by_cases hi : i < k.bits
  · simp only [hi, decide_true, Bool.true_and]
    cases x.testBit i <;> cases y.testBit i <;> rfl
  · have : x.testBit i = false := Nat.testBit_lt_two_pow (Nat.lt_of_lt_of_le hx (Nat.pow_le_pow_right (by omega) (by omega)))
    simp [this, hi]
end bits

theorem minN_spec (a b : Nat) : minN a b = min a b := by
  unfold minN
  split
  · rename_i h; have := Nat.le_of_ble_eq_true h; omega
  · rename_i h
    have : ¬ a ≤ b := fun h' => by rw [Nat.ble_eq_true_of_le h'] at h; cases h
    omega

theorem bitsA_spec {P : Program} {w : World} {f : Nat → Nat → Nat} {op : BinOp} {k : IntKind} {a b : Int} {v : AV} (h : bitsA f k a b = some v)
    (hf : ∀ x y : Nat, x < fullK k → y < fullK k → (Op.intBits op k (Int.ofNat x) (Int.ofNat y)).run P w = .ok (.int k (k.wrap (Int.ofNat (f x y)))) w) :
    ∃ n, v = .int k n ∧ (Op.intBits op k a b).run P w = .ok (.int k n) w := by
  unfold bitsA at h
  split at h
  · rename_i x y
    split at h
    · rename_i hx
      split at h
      · rename_i hy
        cases h
        rw [nblt] at hx hy
        exact ⟨_, rfl, by rw [hf x y (by simpa using hx) (by simpa using hy), wrapA_spec]⟩
      · cases h
    · cases h
  · cases h

theorem arith_spec (P : Program) (w : World) {op : BinOp} {k : IntKind} {a b : Int} {v : AV} (t : TypeId) (h : arith op k a b = some v) :
    ∃ x, (binOp op t (.int k a) (.int k b)).run P w = .ok x w ∧ ∀ C, VR C v x := by
  cases op <;> simp only [arith] at h
  case add => cases h; exact ⟨_, by simp [binOp, Op.intArith]; rfl, fun C => by rw [wrapA_spec]; exact .int k _⟩
  case sub => cases h; exact ⟨_, by simp [binOp, Op.intArith]; rfl, fun C => by rw [wrapA_spec]; exact .int k _⟩
  case mul => cases h; exact ⟨_, by simp [binOp, Op.intArith]; rfl, fun C => by rw [wrapA_spec]; exact .int k _⟩
  case quo =>
    split at h
    · cases h
    · rename_i hz
      cases h
      have hb : b ≠ 0 := fun e => by rw [(isZ_spec b).2 e] at hz; cases hz
      exact ⟨.int k (k.wrap (a.tdiv b)), by simp [binOp, Op.intDiv, hb], fun C => by rw [wrapA_spec]; exact .int k _⟩
  case rem =>
    split at h
    · cases h
    · rename_i hz
      cases h
      have hb : b ≠ 0 := fun e => by rw [(isZ_spec b).2 e] at hz; cases hz
      exact ⟨.int k (a.tmod b), by simp [binOp, Op.intDiv, hb], fun C => .int k _⟩
  case and =>
    obtain ⟨n, rfl, hr⟩ := bitsA_spec (P := P) (w := w) (op := .and) h (fun x y hx hy => by simp only [Op.intBits, bits_and hx hy]; rfl)
    exact ⟨_, by simpa [binOp] using hr, fun C => .int k n⟩
  case or =>
    obtain ⟨n, rfl, hr⟩ := bitsA_spec (P := P) (w := w) (op := .or) h (fun x y hx hy => by simp only [Op.intBits, bits_or hx hy]; rfl)
    exact ⟨_, by simpa [binOp] using hr, fun C => .int k n⟩
  case xor =>
    obtain ⟨n, rfl, hr⟩ := bitsA_spec (P := P) (w := w) (op := .xor) h (fun x y hx hy => by simp only [Op.intBits, bits_xor hx hy]; rfl)
    exact ⟨_, by simpa [binOp] using hr, fun C => .int k n⟩
  case andNot =>
    obtain ⟨n, rfl, hr⟩ := bitsA_spec (P := P) (w := w) (op := .andNot) h (fun x y hx hy => by simp only [Op.intBits, bits_andNot hx hy]; rfl)
    exact ⟨_, by simpa [binOp] using hr, fun C => .int k n⟩
  case eql => cases h; exact ⟨_, by simp [binOp, Op.intCmp]; rfl, fun C => by rw [eqI_spec]; exact .bool _⟩
  case neq => cases h; exact ⟨.bool (a != b), by simp [binOp, Op.intCmp], fun C => by rw [eqI_spec]; exact .bool _⟩
  case lss => cases h; exact ⟨_, by simp [binOp, Op.intCmp]; rfl, fun C => by rw [ltI_spec]; exact .bool _⟩
  case gtr => cases h; exact ⟨_, by simp [binOp, Op.intCmp]; rfl, fun C => by rw [ltI_spec]; exact .bool _⟩
  case leq =>
    cases h
    refine ⟨.bool (decide (a ≤ b)), by simp [binOp, Op.intCmp], fun C => ?_⟩
    rw [ltI_spec, show (!decide (b < a)) = decide (a ≤ b) from by rw [Bool.eq_iff_iff]; simp]
    exact .bool _
  case geq =>
    cases h
    refine ⟨.bool (decide (a ≥ b)), by simp [binOp, Op.intCmp], fun C => ?_⟩
    rw [ltI_spec, show (!decide (a < b)) = decide (a ≥ b) from by rw [Bool.eq_iff_iff]; simp]
    exact .bool _
  all_goals cases h

theorem shiftA_spec (P : Program) (w : World) {op : BinOp} (hop : op = .shl ∨ op = .shr) {k k' : IntKind} {a b : Int} {v : AV} (t : TypeId) (h : shiftA op k a b = some v) :
    ∃ x, (binOp op t (.int k a) (.int k' b)).run P w = .ok x w ∧ ∀ C, VR C v x := by
  unfold shiftA at h
  split at h
  · rename_i x y
    rcases hop with rfl | rfl
    · simp only [Option.some.injEq] at h
      subst h
      refine ⟨.int k (k.wrap (Int.ofNat x * 2 ^ (min y k.bits))), ?_, fun C => ?_⟩
      · have : ¬ ((Int.ofNat y) < 0) := by simp
        simp only [binOp, Op.shift]
        rw [if_neg this]
        rfl
      · rw [wrapA_spec, minN_spec]
        have : Int.ofNat (x.mul (Nat.pow 2 (min y k.bits))) = Int.ofNat x * 2 ^ (min y k.bits) := by
          show ((x * 2 ^ (min y k.bits) : Nat) : Int) = _
          simp
        rw [this]; exact .int k _
    · simp only [Option.some.injEq] at h
      subst h
      refine ⟨.int k ((Int.ofNat x).fdiv (2 ^ (min y k.bits))), ?_, fun C => ?_⟩
      · have : ¬ ((Int.ofNat y) < 0) := by simp
        simp only [binOp, Op.shift]
        rw [if_neg this]
        rfl
      · rw [minN_spec]
        have : Int.ofNat (x.div (Nat.pow 2 (min y k.bits))) = (Int.ofNat x).fdiv (2 ^ (min y k.bits)) := by
          show ((x / 2 ^ (min y k.bits) : Nat) : Int) = ((x : Nat) : Int).fdiv (2 ^ (min y k.bits))
          have e : ((2 : Int) ^ (min y k.bits)) = ((2 ^ (min y k.bits) : Nat) : Int) := by simp
          rw [e, Int.fdiv_eq_ediv_of_nonneg _ (Int.natCast_nonneg _)]
          rfl
        rw [this]; exact .int k _
  · cases h

end Go.Sv
