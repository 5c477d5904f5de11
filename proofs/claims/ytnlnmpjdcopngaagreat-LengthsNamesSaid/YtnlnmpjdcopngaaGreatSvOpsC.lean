/- Each operation of the evaluator's against the model's: texts, equality, two operands. -/
import Derived.Test.YtnlnmpjdcopngaaGreatSvOpsB
namespace Go.Sv
open Go.RowKit (Below)

/-! ### Texts as numbers -/
theorem packL_lt : ∀ l : List UInt8, packL l < 256 ^ l.length
  | [] => by simp [packL]
  | b :: l => by
    have := packL_lt l
    have hb := b.toNat_lt
    simp only [packL, List.length_cons, Nat.pow_succ]
    omega
theorem packL_append : ∀ a b : List UInt8, packL (a ++ b) = packL a + packL b * 256 ^ a.length
  | [], b => by simp [packL]
  | x :: a, b => by
    simp only [List.cons_append, packL, packL_append a b, List.length_cons, Nat.pow_succ]
    rw [Nat.mul_add, Nat.add_assoc, Nat.mul_comm (256 ^ a.length) 256, Nat.mul_left_comm 256]
theorem packL_inj : ∀ {a b : List UInt8}, a.length = b.length → packL a = packL b → a = b
  | [], [], _, _ => rfl
  | [], _ :: _, h, _ => by simp at h
  | _ :: _, [], h, _ => by simp at h
  | x :: a, y :: b, h, k => by
    simp only [packL] at k
    have hx := x.toNat_lt
    have hy := y.toNat_lt
    have h1 : x.toNat = y.toNat := by omega
    have h2 : packL a = packL b := by omega
    rw [packL_inj (by simpa using h) h2, UInt8.toNat_inj.1 h1]
theorem packL_drop : ∀ (i : Nat) (l : List UInt8), packL (l.drop i) = packL l / 256 ^ i
  | 0, l => by simp
  | i + 1, [] => by simp [packL]
  | i + 1, b :: l => by
    rw [List.drop_succ_cons, packL_drop i l]
    have hb := b.toNat_lt
    simp only [packL, Nat.pow_succ]
    rw [Nat.mul_comm (256 ^ i) 256, ← Nat.div_div_eq_div_mul]
    congr 1
    omega
theorem packL_take : ∀ (i : Nat) (l : List UInt8), packL (l.take i) = packL l % 256 ^ i
  | 0, l => by simp [packL, Nat.mod_one]
  | i + 1, [] => by simp [packL]
  | i + 1, b :: l => by
    rw [List.take_succ_cons]
    simp only [packL]
    rw [packL_take i l, Nat.pow_succ, Nat.mul_comm (256 ^ i) 256]
    have hb := b.toNat_lt
    rw [Nat.mod_mul, Nat.add_mul_mod_self_left, Nat.mod_eq_of_lt hb, Nat.add_mul_div_left _ _ (by omega), Nat.div_eq_of_lt hb, Nat.zero_add]
theorem packL_get {l : List UInt8} {i : Nat} {b : UInt8} (h : l[i]? = some b) : packL l / 256 ^ i % 256 = b.toNat := by
  rw [← packL_drop]
  have hi := (List.getElem?_eq_some_iff.1 h).1
  rw [List.drop_eq_getElem_cons hi, packL, (List.getElem?_eq_some_iff.1 h).2]
  have hb := b.toNat_lt
  omega
theorem unpack_pack : ∀ l : List UInt8, unpackL l.length (packL l) = l.map (·.toNat)
  | [] => rfl
  | b :: l => by
    have hb := b.toNat_lt
    simp only [List.length_cons, unpackL, packL, List.map_cons]
    have e1 : Nat.mod (b.toNat + 256 * packL l) 256 = b.toNat := by show (b.toNat + 256 * packL l) % 256 = _; omega
    have e2 : Nat.div (b.toNat + 256 * packL l) 256 = packL l := by show (b.toNat + 256 * packL l) / 256 = _; omega
    rw [e1, e2, unpack_pack l]
theorem less_spec : ∀ a b : List UInt8, Op.bytesLess a b = natsLess (a.map (·.toNat)) (b.map (·.toNat))
  | _, [] => by simp [Op.bytesLess, natsLess]
  | [], _ :: _ => by simp [Op.bytesLess, natsLess]
  | x :: a, y :: b => by
    simp only [Op.bytesLess, natsLess, List.map_cons, less_spec a b, nblt]
    have h1 : decide (x < y) = decide (x.toNat < y.toNat) := by rw [decide_eq_decide]; exact UInt8.lt_iff_toNat_lt
    have h2 : (x == y) = Nat.beq x.toNat y.toNat := by
      rw [Bool.eq_iff_iff]; simp [Nat.beq_eq, UInt8.toNat_inj]
    rw [h1, h2]

theorem strEq_spec {a b : ByteArray} : (a.toList == b.toList) = (Nat.beq a.data.toList.length b.data.toList.length && Nat.beq (packL a.data.toList) (packL b.data.toList)) := by
  rw [ByteArray.toList_eq, ByteArray.toList_eq, Bool.eq_iff_iff]
  simp only [beq_iff_eq, Bool.and_eq_true, Nat.beq_eq]
  exact ⟨fun h => by rw [h]; exact ⟨rfl, rfl⟩, fun ⟨h1, h2⟩ => packL_inj h1 h2⟩
theorem strLt_spec {a b : ByteArray} : Op.bytesLess a.toList b.toList = natsLess (unpackL a.data.toList.length (packL a.data.toList)) (unpackL b.data.toList.length (packL b.data.toList)) := by
  rw [ByteArray.toList_eq, ByteArray.toList_eq, less_spec, unpack_pack, unpack_pack]

theorem append_data (a b : ByteArray) : (a ++ b).data.toList = a.data.toList ++ b.data.toList := by
  simp

theorem strOp_spec (P : Program) (w : World) {op : BinOp} {x y : ByteArray} {v : AV} (t : TypeId)
    (h : strOp op x.data.toList.length (packL x.data.toList) y.data.toList.length (packL y.data.toList) = some v) :
    ∃ u, (binOp op t (.string x) (.string y)).run P w = .ok u w ∧ ∀ C, VR C v u := by
  have hb : binOp op t (.string x) (.string y) = Op.stringOp op x y ∨ op = .shl ∨ op = .shr := by cases op <;> simp [binOp]
  rcases hb with hb | rfl | rfl
  · rw [hb]
    have he := strEq_spec (a := x) (b := y)
    have hl := strLt_spec (a := x) (b := y)
    unfold Op.stringOp
    cases op <;> simp only [strOp] at h
    case add =>
      split at h
      · rename_i hle
        cases h
        have hle' := Nat.le_of_ble_eq_true hle
        have hsz : x.size + y.size ≤ lim := hle'
        refine ⟨.string (x ++ y), ?_, fun C => .str ?_ ?_⟩
        · dsimp only
          rw [if_neg]
          · rfl
          · simp only [IntKind.max, IntKind.signed, IntKind.bits, if_true]; unfold lim at hsz; omega
        · rw [append_data, List.length_append]; rfl
        · rw [append_data, packL_append]; rfl
      · cases h
    case eql => cases h; exact ⟨_, rfl, fun C => by rw [← he]; exact .bool _⟩
    case neq => cases h; exact ⟨_, rfl, fun C => by rw [← he]; exact .bool _⟩
    case lss => cases h; exact ⟨_, rfl, fun C => by rw [← hl]; exact .bool _⟩
    case leq => cases h; exact ⟨_, rfl, fun C => by rw [← hl, ← he]; exact .bool _⟩
    case gtr => cases h; exact ⟨_, rfl, fun C => by rw [← hl, ← he]; exact .bool _⟩
    case geq => cases h; exact ⟨_, rfl, fun C => by rw [← hl]; exact .bool _⟩
    all_goals cases h
  · simp [strOp] at h
  · simp [strOp] at h

end Go.Sv
