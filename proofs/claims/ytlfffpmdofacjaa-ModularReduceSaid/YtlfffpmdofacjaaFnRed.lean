/- The statement ModularReduce: its walk. -/
import Derived.Test.YtlfffpmdofacjaaFnR
namespace Go.Proofs.Ytlfffpmdofacjaa
open Go.Sv
set_option linter.unusedSimpArgs false

def c_law03_ModularReduce : LC :=
 (.seq (.ops [
   ⟨(some 6), none, .move (.c (.bool false))⟩])
 (.seq (.seq (.ops [
     ⟨(some 18), none, .callV (.c (.fn (.func 22) [] [])) []⟩,
     ⟨(some 19), none, .un .not (.t 18)⟩])
   (.cond (.t 19)
    (.seq (.ops [
       ⟨(some 6), none, .move (.c (.bool false))⟩])
     .ret)
    .skip))
  (.seq (.seq (.ops [
      ⟨(some 20), none, .move (.t 0)⟩,
      ⟨(some 21), none, .move (.t 0)⟩,
      ⟨(some 22), none, .move (.t 1)⟩,
      ⟨(some 23), none, .callV (.c (.fn (.func 23) [] [])) [(.t 20), (.t 21), (.t 22)]⟩,
      ⟨(some 24), none, .un .not (.t 23)⟩,
      ⟨(some 25), none, .move (.t 24)⟩,
      ⟨(some 26), (some (25, false)), .move (.t 1)⟩,
      ⟨(some 27), (some (25, false)), .lenSl (.t 26)⟩,
      ⟨(some 28), (some (25, false)), .bin .eql true 3 (.t 27) (.c (.i 0))⟩,
      ⟨(some 29), none, .pick (.t 25) (.c (.bool true)) (.t 28)⟩,
      ⟨(some 30), none, .move (.t 29)⟩,
      ⟨(some 31), (some (30, false)), .move (.t 1)⟩,
      ⟨(some 32), (some (30, false)), .ixAddr 1 (.t 31) (.c (.i 0))⟩,
      ⟨(some 33), (some (30, false)), .load1 (.t 32)⟩,
      ⟨(some 34), (some (30, false)), .bin .rem true 29 (.t 33) (.c (.u 2))⟩,
      ⟨(some 35), (some (30, false)), .bin .eql true 29 (.t 34) (.c (.u 0))⟩,
      ⟨(some 36), none, .pick (.t 30) (.c (.bool true)) (.t 35)⟩])
    (.cond (.t 36)
     (.seq (.ops [
        ⟨(some 6), none, .move (.c (.bool true))⟩])
      .ret)
     .skip))
   (.seq (.ops [
      ⟨(some 37), none, .move (.t 2)⟩,
      ⟨(some 38), none, .callV (.c (.fn (.func 28) [] [])) [(.t 37), (.c (.i 9))]⟩,
      ⟨(some 2), none, .move (.t 38)⟩])
    (.seq (.ops [
       ⟨(some 40), none, .move (.t 2)⟩,
       ⟨(some 41), none, .move (.t 1)⟩,
       ⟨(some 42), none, .callV (.c (.fn (.func 36) [] [])) [(.t 40), (.t 41)]⟩,
       ⟨(some 39), none, .move (.t 42)⟩,
       ⟨(some 43), none, .extract 0 (.t 39)⟩,
       ⟨(some 44), none, .extract 1 (.t 39)⟩,
       ⟨(some 7), none, .move (.t 43)⟩,
       ⟨(some 8), none, .move (.t 44)⟩])
     (.seq (.ops [
        ⟨(some 46), none, .move (.t 0)⟩,
        ⟨(some 47), none, .move (.t 7)⟩,
        ⟨(some 48), none, .callV (.c (.fn (.func 27) [] [])) [(.t 46), (.t 47)]⟩,
        ⟨(some 49), none, .move (.t 1)⟩,
        ⟨(some 50), none, .move (.t 2)⟩,
        ⟨(some 51), none, .callV (.c (.fn (.func 37) [] [])) [(.t 48), (.t 49), (.t 50)]⟩,
        ⟨(some 45), none, .move (.t 51)⟩,
        ⟨(some 52), none, .extract 0 (.t 45)⟩,
        ⟨(some 53), none, .extract 1 (.t 45)⟩,
        ⟨(some 9), none, .move (.t 52)⟩,
        ⟨(some 10), none, .move (.t 53)⟩])
      (.seq (.ops [
         ⟨(some 55), none, .move (.t 0)⟩,
         ⟨(some 56), none, .move (.t 1)⟩,
         ⟨(some 57), none, .callV (.c (.fn (.func 29) [] [])) [(.t 55), (.t 56)]⟩,
         ⟨(some 54), none, .move (.t 57)⟩,
         ⟨(some 58), none, .extract 0 (.t 54)⟩,
         ⟨(some 59), none, .extract 1 (.t 54)⟩,
         ⟨(some 60), none, .extract 2 (.t 54)⟩,
         ⟨(some 11), none, .move (.t 58)⟩,
         ⟨(some 12), none, .move (.t 59)⟩,
         ⟨(some 13), none, .move (.t 60)⟩])
       (.seq (.ops [
          ⟨(some 62), none, .move (.t 1)⟩,
          ⟨(some 63), none, .callV (.c (.fn (.func 38) [] [])) [(.t 62)]⟩,
          ⟨(some 61), none, .move (.t 63)⟩,
          ⟨(some 64), none, .extract 0 (.t 61)⟩,
          ⟨(some 65), none, .extract 1 (.t 61)⟩,
          ⟨(some 14), none, .move (.t 64)⟩,
          ⟨(some 15), none, .move (.t 65)⟩])
        (.seq (.ops [
           ⟨(some 16), none, .move (.c (.u 0))⟩])
         (.seq (.seq (.ops [
             ⟨(some 66), none, .move (.t 0)⟩,
             ⟨(some 67), none, .lenSl (.t 66)⟩,
             ⟨(some 68), none, .bin .gtr true 3 (.t 67) (.c (.i 0))⟩])
           (.cond (.t 68)
            (.ops [
              ⟨(some 69), none, .move (.t 0)⟩,
              ⟨(some 70), none, .ixAddr 1 (.t 69) (.c (.i 0))⟩,
              ⟨(some 71), none, .load1 (.t 70)⟩,
              ⟨(some 16), none, .move (.t 71)⟩])
            .skip))
          (.seq (.ops [
             ⟨(some 72), none, .move (.t 0)⟩,
             ⟨(some 73), none, .move (.t 1)⟩,
             ⟨(some 74), none, .move (.t 16)⟩,
             ⟨(some 75), none, .move (.t 14)⟩,
             ⟨(some 76), none, .bin .mul false 29 (.t 74) (.t 75)⟩,
             ⟨(some 77), none, .callV (.c (.fn (.func 25) [] [])) [(.t 76)]⟩,
             ⟨(some 78), none, .callV (.c (.fn (.func 27) [] [])) [(.t 73), (.t 77)]⟩,
             ⟨(some 79), none, .callV (.c (.fn (.func 16) [] [])) [(.t 72), (.t 78)]⟩,
             ⟨(some 17), none, .move (.t 79)⟩])
           (.seq (.ops [
              ⟨(some 80), none, .move (.t 8)⟩,
              ⟨(some 81), none, .bin .eql true 25 (.t 80) (.c (.i 0))⟩,
              ⟨(some 82), none, .move (.t 81)⟩,
              ⟨(some 83), (some (82, true)), .move (.t 10)⟩,
              ⟨(some 84), (some (82, true)), .bin .eql true 25 (.t 83) (.c (.i 0))⟩,
              ⟨(some 85), none, .pick (.t 82) (.t 84) (.c (.bool false))⟩,
              ⟨(some 86), none, .move (.t 85)⟩,
              ⟨(some 87), (some (86, true)), .move (.t 9)⟩,
              ⟨(some 88), (some (86, true)), .move (.t 12)⟩,
              ⟨(some 89), (some (86, true)), .callV (.c (.fn (.func 19) [] [])) [(.t 87), (.t 88)]⟩,
              ⟨(some 90), none, .pick (.t 86) (.t 89) (.c (.bool false))⟩,
              ⟨(some 91), none, .move (.t 90)⟩,
              ⟨(some 92), (some (91, true)), .move (.t 15)⟩,
              ⟨(some 93), (some (91, true)), .bin .eql true 25 (.t 92) (.c (.i 0))⟩,
              ⟨(some 94), none, .pick (.t 91) (.t 93) (.c (.bool false))⟩,
              ⟨(some 95), none, .move (.t 94)⟩,
              ⟨(some 96), (some (95, true)), .move (.t 17)⟩,
              ⟨(some 97), (some (95, true)), .lenSl (.t 96)⟩,
              ⟨(some 98), (some (95, true)), .bin .eql true 3 (.t 97) (.c (.i 0))⟩,
              ⟨(some 99), (some (95, true)), .move (.t 98)⟩,
              ⟨(some 100), (some (99, false)), .move (.t 17)⟩,
              ⟨(some 101), (some (99, false)), .ixAddr 1 (.t 100) (.c (.i 0))⟩,
              ⟨(some 102), (some (99, false)), .load1 (.t 101)⟩,
              ⟨(some 103), (some (99, false)), .bin .eql true 29 (.t 102) (.c (.u 0))⟩,
              ⟨(some 104), (some (95, true)), .pick (.t 99) (.c (.bool true)) (.t 103)⟩,
              ⟨(some 105), none, .pick (.t 95) (.t 104) (.c (.bool false))⟩,
              ⟨(some 6), none, .move (.t 105)⟩])
            .ret))))))))))))
theorem r_law03_ModularReduce : resFn Try.prog 8 = some ⟨106, c_law03_ModularReduce.r, [.tmp 6]⟩ := by kernel_rfl
theorem k_law03_ModularReduce : c_law03_ModularReduce.ok = true := by kernel_rfl



/-- With the constant a limb is made nought. -/
theorem const_limb (a n : List UInt64) (h : oddL n = true) : (toL (val a + val n * (mulU (a.getD 0 0) (conR n)).toNat)).getD 0 0 = 0 := by
  have hi : n.getD 0 0 * inv64 (n.getD 0 0) = 1 := by
    have := nwI_5 (odd_head h)
    rw [inv64_eq this]; exact this
  have ha := limb_at a 0
  have hn := limb_at n 0
  rw [u_zero_iff, limb_at, val_toL]
  simp only [Nat.mul_zero, Nat.pow_zero, Nat.div_one] at ha hn ⊢
  rw [conR, if_pos h, mulU_eq]
  generalize a.getD 0 0 = low at *
  generalize n.getD 0 0 = n0 at *
  have e : low + n0 * (low * (0 - inv64 n0)) = 0 := by grind
  have e2 := congrArg UInt64.toNat e
  rw [UInt64.toNat_add, UInt64.toNat_mul] at e2
  generalize (low * (0 - inv64 n0)).toNat = c at *
  rw [Nat.add_mod, Nat.mul_mod, ← ha, ← hn]
  have z : (0 : UInt64).toNat = 0 := rfl
  rw [z] at e2
  simp at e2 ⊢
  exact e2
/-- A product with the radix, through the radix. -/
theorem reduce_back (a n : List UInt64) (h : oddL n = true) (k : Nat) : val a * (2 ^ (64 * k) % val n) * invN (2 ^ (64 * k) % val n) (val n) % val n = val a % val n := by
  have h2 := (invN_spec (oddL_ne h) (radix_coprime' (oddL_odd h) (64 * k))).2
  rw [Nat.mul_assoc, Nat.mul_mod, h2, ← Nat.mul_mod, Nat.mul_one]
theorem law03_ModularReduce_run (a n : List UInt64) (l : Int) (_ : a.length ≤ 9223372036854775807) (hnl : n.length ≤ 9223372036854775807) (_ : -9223372036854775808 ≤ l ∧ l < 9223372036854775808) : CallL Try.prog (.fn 8) [LU a, LU n, .i l] [] fun v _ => v = .bool true := by
  refine call_body r_law03_ModularReduce k_law03_ModularReduce (by simp) ?_
  simp [c_law03_ModularReduce]
  refine CallL_F law03_lives_ok (by simp) ?_
  simp
  refine CallL_F (law03_light_ok a a n) (by simp) ?_
  by_cases h1 : a.length ≤ 5 ∧ a.length ≤ 5 ∧ n.length ≤ 5
  rotate_left
  · rw [decide_eq_false h1]; simp
  obtain ⟨la, _, ln⟩ := h1
  have h1 : a.length ≤ 5 ∧ a.length ≤ 5 ∧ n.length ≤ 5 := ⟨la, la, ln⟩
  rw [decide_eq_true h1]
  cases hn0 : n with
  | nil => simp
  | cons x r =>
    rw [← hn0]
    have hlen : ¬ ((n.length : Int) = 0) := by rw [hn0]; simp; omega
    have hlen2 : 0 < n.length := by rw [hn0]; simp
    have hne : n ≠ [] := by rw [hn0]; simp
    by_cases hev : n.getD 0 0 % 2 = 0
    · have hev2 : modU n[0] 2 = 0 := by rw [modU_eq]; simpa [hlen2] using hev
      simp [hlen, hlen2, hne, hev2]
    have hodd : oddL n = true := by
      refine decide_eq_true ?_
      generalize n.getD 0 0 = w at *
      apply UInt64.toNat_inj.1
      have : ¬ (w % 2).toNat = 0 := fun e => hev ((u_zero_iff _).2 e)
      simp at this ⊢
      omega
    have hev2 : ¬ modU n[0] 2 = 0 := by rw [modU_eq]; simpa [hlen2] using hev
    have hz := oddL_ne hodd
    have hp : 0 < val n := by omega
    have hml : ∀ z, (toL (z % val n)).length ≤ n.length := fun z => toL_len_lt (Nat.mod_lt _ hp)
    simp [hlen, hlen2, hne, hev2]
    obtain ⟨k, hk, hpick⟩ := kit_Pick_ok l 9 (by omega)
    refine CallL_F hpick (by simp) ?_
    simp
    refine CallL_F (modular_Radix_ok k n (by omega)) (by simp) ?_
    have hk2 : ¬ ((k : Int) < 0 ∨ 512 < (k : Int)) := by omega
    have hrd : rdE k (val n) = 0 ∧ rdR k (val n) = toL (2 ^ (64 * k) % val n) := by
      refine ⟨by simp only [rdE]; rw [if_neg hk2, mE_p hz], by simp only [rdR]; rw [if_neg hk2, mR_p hz]; rfl⟩
    rw [hrd.1, hrd.2]
    have lr := hml (2 ^ (64 * k))
    have hback := reduce_back a n hodd k
    obtain ⟨r', hr⟩ : ∃ r, 2 ^ (64 * k) % val n = r := ⟨_, rfl⟩
    rw [hr] at lr
    simp [RU]
    rw [hr]
    refine CallL_F (ref02_Mul_ok a (toL r') (by omega) (by omega)) (by simp) ?_
    have lm := toL_mul_len a (toL r')
    rw [val_toL] at lm ⊢
    simp [RU]
    refine CallL_F (modular_Reduce_ok (toL (val a * r')) n k (by omega) (by omega)) (by simp) ?_
    have hc : oddL n = true ∧ 0 ≤ (k : Int) ∧ (k : Int) ≤ 512 := ⟨hodd, by omega, by omega⟩
    have hre : reE n k = 0 ∧ reR (toL (val a * r')) n k = toL (val a % val n) := by
      refine ⟨by simp only [reE]; rw [if_pos hc], ?_⟩
      simp only [reR]
      rw [if_pos hc, val_toL, ← hback, ← hr]
      rfl
    rw [hre.1, hre.2]
    have lt := hml (val a)
    simp [RU]
    refine CallL_F (ref02_Div_ok a n (by omega) (by omega)) (by simp) ?_
    simp [RU, hz]
    refine CallL_F (modular_Const_ok n) (by simp) ?_
    have hce : conE n = 0 := by simp [conE, hodd]
    rw [hce]
    have hlimb := const_limb a n hodd
    generalize conR n = c at *
    obtain ⟨low, hlow⟩ : ∃ low, a.getD 0 0 = low := ⟨_, rfl⟩
    rw [hlow] at hlimb
    simp
    by_cases hal : a.length = 0
    · have ha0 : a = [] := List.eq_nil_of_length_eq_zero hal
      have hl0 : low = 0 := by rw [← hlow, ha0]; rfl
      subst hl0
      simp [hal, ha0]
      refine CallL_F (law03_one_ok (mulU 0 c)) (by simp) ?_
      have lo1 := one_len (mulU 0 c)
      generalize (mulU 0 c).toNat = w at *
      simp [RU]
      refine CallL_F (ref02_Mul_ok n (toL w) (by omega) (by omega)) (by simp) ?_
      have lm2 := toL_mul_len n (toL w)
      rw [val_toL] at lm2 ⊢
      simp [RU]
      refine CallL_F (ref02_Add_ok a (toL (val n * w)) (by omega) (by omega)) (by simp [ha0]) ?_
      rw [val_toL]
      generalize toL (val a + val n * w) = X at *
      simp [RU]
      refine CallL_F (kit_Same_ok (toL (val a % val n)) (toL (val a % val n)) (by omega)) (by simp [ha0]) ?_
      cases X with
      | nil => simp
      | cons z Z =>
        have hX : ¬ ((Z.length : Int) + 1 = 0) := by omega
        simp at hlimb
        simp [hX, hlimb]
    · have hapos : (0 : Int) < a.length := by omega
      have hapos2 : 0 < a.length := by omega
      have hne2 : a ≠ [] := fun e => hal (by rw [e]; rfl)
      have hlow2 : a[0] = low := by simpa [hapos2] using hlow
      simp [hapos, hapos2, hne2, hlow2]
      refine CallL_F (law03_one_ok (mulU low c)) (by simp) ?_
      have lo1 := one_len (mulU low c)
      generalize (mulU low c).toNat = w at *
      simp [RU]
      refine CallL_F (ref02_Mul_ok n (toL w) (by omega) (by omega)) (by simp) ?_
      have lm2 := toL_mul_len n (toL w)
      rw [val_toL] at lm2 ⊢
      simp [RU]
      refine CallL_F (ref02_Add_ok a (toL (val n * w)) (by omega) (by omega)) (by simp) ?_
      rw [val_toL]
      generalize toL (val a + val n * w) = X at *
      simp [RU]
      refine CallL_F (kit_Same_ok (toL (val a % val n)) (toL (val a % val n)) (by omega)) (by simp) ?_
      cases X with
      | nil => simp
      | cons z Z =>
        have hX : ¬ ((Z.length : Int) + 1 = 0) := by omega
        simp at hlimb
        simp [hX, hlimb]
end Go.Proofs.Ytlfffpmdofacjaa
