/- What an operation comes to in the logic, the evaluator's operation comes to: the whole. -/
import Derived.Test.YtlfffpmdofacjaaLgOpl
namespace Go.Sv

section res
variable {P : Program} {c : Cx} {G : LHeap} {K : LV → LHeap → Prop}

theorem binL_ok {op : BinOp} {g : Bool} {t : TypeId} {x y : LV} {a b : AV} {K : LV → Prop} (hx : AR c x a) (hy : AR c y b) (h : binL P op g t x y K) : VRes c K (binA P op g t a b) := by
  unfold binL at h
  split at h
  · cases hx; cases hy; exact uuL_ok h
  · cases hx; cases hy; exact iiL_ok h
  · cases hx; cases hy; exact bbL_ok h
  · rename_i u v
    cases hx; cases hy
    cases op <;> try exact h.elim
    · simp only [binA]; rw [h.1]; exact .mk (.bool _) h.2
    · simp only [binA]; rw [h.1]; exact .mk (.bool _) h.2
  · rename_i u s
    cases hx; cases hy
    cases op <;> try exact h.elim
    · obtain ⟨h1, h2⟩ := h
      obtain ⟨n, rfl⟩ := Int.eq_ofNat_of_zero_le h1
      exact .mk (.u' (shl_u u n)) h2
    · obtain ⟨h1, h2⟩ := h
      obtain ⟨n, rfl⟩ := Int.eq_ofNat_of_zero_le h1
      exact .mk (.u' (shr_u u n)) h2
  · rename_i u s
    cases hx; cases hy
    cases op <;> try exact h.elim
    · obtain ⟨h1, h2, h3, h4⟩ := h
      rw [(shift_i (s := Int.ofNat s.toNat) h1 (Int.natCast_nonneg _) (by show (s.toNat : Int) ≤ 64; omega)).1]
      exact .mk (.i' (wrapA_i64 h3)) h4
    · obtain ⟨h1, h2, h4⟩ := h
      rw [(shift_i (s := Int.ofNat s.toNat) h1 (Int.natCast_nonneg _) (by show (s.toNat : Int) ≤ 64; omega)).2]
      exact .mk (.i _) h4
  · obtain ⟨rfl, h⟩ := h
    cases hx; cases hy; exact kkL_ok h
  · cases hx; cases hy; exact ssL_ok h
  · cases hx; cases hy; exact nilL_ok (by cases op <;> rfl) h
  · cases hx; cases hy
    have : ∀ o v i, eqA P g t (.ptr o v i) .nilPtr = eqA P g t (.ptr 0 0 0) .nilPtr := fun o v i => by
      unfold eqA guardT eqT eqT1
      dsimp only
      cases P.underlying t with
      | none => rfl
      | some d => cases d <;> rfl
    refine nilL_ok (r := false) (by cases op <;> rfl) ?_
    cases op <;> simp only [nilL] at h ⊢ <;> (rw [this]; exact h)
  · cases hx; cases hy; exact nilL_ok (by cases op <;> rfl) h
  · exact h.elim

theorem unL_ok {op : UnOp} {x : LV} {a : AV} {K : LV → Prop} (hx : AR c x a) (h : unL op x K) : VRes c K (unA op a) := by
  unfold unL at h
  simp only [subU_eq, notU_eq] at h
  split at h
  · cases hx; exact .mk (.bool _) h
  · cases hx
    refine .mk (.u' ?_) h
    rename_i u
    rw [wrapA_u64, UInt64.toNat_sub]
    show (0 - Int.ofNat u.toNat) % _ = ((2 ^ 64 - u.toNat + (0 : UInt64).toNat) % 2 ^ 64 : Nat)
    have := u.toNat_lt
    simp only [Int.ofNat_eq_natCast, UInt64.toNat_zero]
    omega
  · cases hx
    obtain ⟨h1, h2⟩ := h
    refine .mk (.i' ?_) h2
    have e : ∀ n : Int, Int.sub 0 n = -n := fun n => by show 0 - n = -n; omega
    rw [e]; exact wrapA_i64 h1
  · cases hx
    refine .mk (.u' ?_) h
    rename_i u
    have hu := u.toNat_lt
    show IntKind.wrap .u64 (BitVec.ofInt 64 (IntKind.max .u64) ^^^ BitVec.ofInt 64 (Int.ofNat u.toNat)).toNat = _
    have e1 : BitVec.ofInt 64 (IntKind.max .u64) = BitVec.allOnes 64 := by decide
    have e2 : BitVec.ofInt 64 (Int.ofNat u.toNat) = u.toBitVec := by
      apply BitVec.eq_of_toNat_eq
      simp
    rw [e1, e2, BitVec.allOnes_xor]
    show ((~~~u.toBitVec).toNat : Int) % 18446744073709551616 = Int.ofNat (~~~u).toNat
    have : (~~~u).toNat = (~~~u.toBitVec).toNat := rfl
    rw [this]
    exact Int.emod_eq_of_lt (Int.natCast_nonneg _) (by have := (~~~u.toBitVec).isLt; omega)
  · exact h.elim

theorem u64_ofInt (n : Int) : n % 18446744073709551616 = Int.ofNat (UInt64.ofInt n).toNat := by
  unfold UInt64.ofInt
  rw [UInt64.toNat_ofNat']
  simp only [Int.ofNat_eq_natCast]
  omega
theorem u8_ofInt (n : Int) : n % 256 = Int.ofNat (UInt8.ofInt n).toNat := by
  unfold UInt8.ofInt
  rw [UInt8.toNat_ofNat']
  simp only [Int.ofNat_eq_natCast]
  omega
theorem cvL_ok {k : IntKind} {x : LV} {a : AV} {K : LV → Prop} (hx : AR c x a) (h : cvL k x K) : ∃ k' n, a = .int k' n ∧ ∃ v, AR c v (.int k (wrapA k n)) ∧ K v := by
  unfold cvL at h
  simp only [iU_eq, bU_eq, uB_eq, iB_eq] at h
  split at h
  · cases hx
    rename_i u
    refine ⟨_, _, rfl, _, .u' ?_, h⟩
    rw [wrapA_u64]
    exact Int.emod_eq_of_lt (Int.natCast_nonneg _) (by have := u.toNat_lt; simp only [Int.ofNat_eq_natCast]; omega)
  · cases hx
    refine ⟨_, _, rfl, _, .u' ?_, h⟩
    rename_i n
    rw [wrapA_u64]
    exact u64_ofInt n
  · cases hx
    rename_i u
    refine ⟨_, _, rfl, _, .u' ?_, h⟩
    rw [wrapA_u64]
    have := u.toNat_lt
    rw [UInt64.toNat_ofNat']
    show Int.ofNat u.toNat % 18446744073709551616 = Int.ofNat (u.toNat % 2 ^ 64)
    simp only [Int.ofNat_eq_natCast]
    omega
  · cases hx
    rename_i u
    exact ⟨_, _, rfl, _, .i' (wrapA_i64 ⟨by simp only [Int.ofNat_eq_natCast]; omega, by simp only [Int.ofNat_eq_natCast]; omega⟩), h.2⟩
  · cases hx
    exact ⟨_, _, rfl, _, .i' (wrapA_i64 h.1), h.2⟩
  · cases hx
    rename_i u
    have := u.toNat_lt
    exact ⟨_, _, rfl, _, .i' (wrapA_i64 ⟨by simp only [Int.ofNat_eq_natCast]; omega, by simp only [Int.ofNat_eq_natCast]; omega⟩), h⟩
  · cases hx
    rename_i u
    refine ⟨_, _, rfl, _, .b' ?_, h⟩
    rw [wrapA_u8, UInt8.toNat_ofNat']
    show Int.ofNat u.toNat % 256 = Int.ofNat (u.toNat % 2 ^ 8)
    simp only [Int.ofNat_eq_natCast]
    omega
  · cases hx
    refine ⟨_, _, rfl, _, .b' ?_, h⟩
    rename_i n
    rw [wrapA_u8]
    exact u8_ofInt n
  · cases hx
    rename_i u
    refine ⟨_, _, rfl, _, .b' ?_, h⟩
    rw [wrapA_u8]
    exact Int.emod_eq_of_lt (Int.natCast_nonneg _) (by have := u.toNat_lt; simp only [Int.ofNat_eq_natCast]; omega)
  · cases hx
    refine ⟨_, _, rfl, _, .b' ?_, h⟩
    rename_i n
    rw [wrapA_u8]
    exact u8_ofInt n
  · exact h.elim

theorem layL_eq : ∀ (r l : List AV) (i : Nat), i + r.length ≤ l.length → layL l i r = layAV l i r
  | [], l, i, h => by
    simp only [layL, layAV, List.length_nil, Nat.add_zero, List.append_nil, List.take_append_drop]
  | a :: r, l, i, h => by
    simp only [List.length_cons] at h
    rw [layL, layL_eq r (l.set i a) (i + 1) (by simp; omega)]
    refine List.ext_getElem? (fun j => ?_)
    rw [layAV_get (by simp; omega), layAV_get (by simp; omega)]
    simp only [List.length_cons]
    by_cases h1 : i + 1 ≤ j ∧ j < i + 1 + r.length
    · rw [if_pos h1, if_pos (by omega), show j - i = (j - (i + 1)) + 1 from by omega, List.getElem?_cons_succ]
    · rw [if_neg h1]
      by_cases h2 : j = i
      · subst h2
        rw [if_pos (by omega), List.getElem?_set_self (by omega)]
        simp
      · rw [if_neg (by omega), List.getElem?_set_ne (Ne.symm h2)]

theorem fillL_ok {ρ : LEnv} {E : Tr AV} (hE : EnvL c ρ E) : ∀ {ps : List (Nat × Nat × Lx)} {cs l : List LV} {cs' : List AV}, ps.all (·.2.2.ok) = true → ARs c cs cs' → fillL ρ cs ps = some l → ∃ l', fillR (ρA E) cs' (rps ps) = some l' ∧ ARs c l l'
  | [], cs, l, cs', _, h, e => by
    simp only [fillL, Option.some.injEq] at e
    subst e
    exact ⟨cs', rfl, h⟩
  | (off, size, x) :: ps, cs, l, cs', hok, h, e => by
    simp only [List.all_cons, Bool.and_eq_true] at hok
    simp only [fillL] at e
    split at e
    · cases e
    · rename_i r hr
      split at e
      · rename_i hc
        obtain ⟨h1, h2⟩ := hc
        obtain ⟨r', q1, q2⟩ := (Lx_ok hE hok.1).cells hr
        have hrl := q2.length
        have hcl := h.length
        obtain ⟨l', q3, q4⟩ := fillL_ok hE hok.2 (h.lay q2 off) e
        refine ⟨l', ?_, q4⟩
        simp only [rps, fillR, q1]
        have b1 : Nat.beq r'.length size = true := by rw [← hrl, h1]; exact Nat.beq_refl _
        have b2 : Nat.ble (Nat.add off size) cs'.length = true := Nat.ble_eq_true_of_le (by show off + size ≤ _; omega)
        simp only [b1, b2]
        rw [layL_eq _ _ _ (by omega)]
        exact q3
      · cases e

theorem bndL_ok {ρ : LEnv} {E : Tr AV} (hE : EnvL c ρ E) {d : Nat} {x : Option Lx} (hok : optOk x = true) {K : Nat → Prop} (h : bndL ρ d x K) : ∃ r n, optR (ρA E) (x.map Lx.r) = some r ∧ r.getD d = n ∧ K n := by
  cases x with
  | none => exact ⟨none, d, rfl, rfl, h⟩
  | some x =>
    simp only [bndL] at h
    have hx := Lx_ok hE (show x.ok = true from hok)
    simp only [Option.map_some, optR]
    split at h
    · rename_i n hn
      obtain ⟨h1, h2⟩ := h
      rw [hn] at hx
      generalize x.r.ev (ρA E) = a at hx
      cases hx
      obtain ⟨m, rfl⟩ := Int.eq_ofNat_of_zero_le h1
      exact ⟨some m, m, rfl, rfl, h2⟩
    · rename_i n hn
      rw [hn] at hx
      generalize x.r.ev (ρA E) = a at hx
      cases hx
      exact ⟨some n.toNat, n.toNat, rfl, rfl, h⟩
    · exact h.elim
end res
end Go.Sv
