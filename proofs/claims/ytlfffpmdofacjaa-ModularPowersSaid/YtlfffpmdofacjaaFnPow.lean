/- The statement ModularPowers: its walk. -/
import Derived.Test.YtlfffpmdofacjaaFnR
import Derived.Test.YtlfffpmdofacjaaSvG4
namespace Go.Proofs.Ytlfffpmdofacjaa
open Go.Sv
set_option linter.unusedSimpArgs false

def c_law03_ModularPowers : LC :=
 (.seq (.ops [
   ⟨(some 12), none, .move (.c (.bool false))⟩])
 (.seq (.seq (.ops [
     ⟨(some 32), none, .callV (.c (.fn (.func 22) [] [])) []⟩,
     ⟨(some 33), none, .un .not (.t 32)⟩])
   (.cond (.t 33)
    (.seq (.ops [
       ⟨(some 12), none, .move (.c (.bool false))⟩])
     .ret)
    .skip))
  (.seq (.seq (.ops [
      ⟨(some 34), none, .move (.t 0)⟩,
      ⟨(some 35), none, .move (.t 1)⟩,
      ⟨(some 36), none, .move (.t 2)⟩,
      ⟨(some 37), none, .callV (.c (.fn (.func 23) [] [])) [(.t 34), (.t 35), (.t 36)]⟩,
      ⟨(some 38), none, .un .not (.t 37)⟩,
      ⟨(some 39), none, .move (.t 38)⟩,
      ⟨(some 40), (some (39, false)), .move (.t 2)⟩,
      ⟨(some 41), (some (39, false)), .callV (.c (.fn (.func 18) [] [])) [(.t 40)]⟩,
      ⟨(some 42), (some (39, false)), .lenSl (.t 41)⟩,
      ⟨(some 43), (some (39, false)), .bin .eql true 3 (.t 42) (.c (.i 0))⟩,
      ⟨(some 44), none, .pick (.t 39) (.c (.bool true)) (.t 43)⟩])
    (.cond (.t 44)
     (.seq (.ops [
        ⟨(some 12), none, .move (.c (.bool true))⟩])
      .ret)
     .skip))
   (.seq (.ops [
      ⟨(some 45), none, .move (.t 3)⟩,
      ⟨(some 46), none, .bin .rem true 29 (.t 45) (.c (.u 1024))⟩,
      ⟨(some 47), none, .move (.t 4)⟩,
      ⟨(some 48), none, .bin .rem true 29 (.t 47) (.c (.u 1024))⟩,
      ⟨(some 3), none, .move (.t 46)⟩,
      ⟨(some 4), none, .move (.t 48)⟩])
    (.seq (.ops [
       ⟨(some 50), none, .move (.t 0)⟩,
       ⟨(some 51), none, .move (.t 3)⟩,
       ⟨(some 52), none, .callV (.c (.fn (.func 25) [] [])) [(.t 51)]⟩,
       ⟨(some 53), none, .move (.t 2)⟩,
       ⟨(some 54), none, .callV (.c (.fn (.func 24) [] [])) [(.t 50), (.t 52), (.t 53)]⟩,
       ⟨(some 49), none, .move (.t 54)⟩,
       ⟨(some 55), none, .extract 0 (.t 49)⟩,
       ⟨(some 56), none, .extract 1 (.t 49)⟩,
       ⟨(some 13), none, .move (.t 55)⟩,
       ⟨(some 14), none, .move (.t 56)⟩])
     (.seq (.ops [
        ⟨(some 58), none, .move (.t 13)⟩,
        ⟨(some 59), none, .move (.t 4)⟩,
        ⟨(some 60), none, .callV (.c (.fn (.func 25) [] [])) [(.t 59)]⟩,
        ⟨(some 61), none, .move (.t 2)⟩,
        ⟨(some 62), none, .callV (.c (.fn (.func 24) [] [])) [(.t 58), (.t 60), (.t 61)]⟩,
        ⟨(some 57), none, .move (.t 62)⟩,
        ⟨(some 63), none, .extract 0 (.t 57)⟩,
        ⟨(some 64), none, .extract 1 (.t 57)⟩,
        ⟨(some 15), none, .move (.t 63)⟩,
        ⟨(some 16), none, .move (.t 64)⟩])
      (.seq (.ops [
         ⟨(some 66), none, .move (.t 0)⟩,
         ⟨(some 67), none, .move (.t 3)⟩,
         ⟨(some 68), none, .move (.t 4)⟩,
         ⟨(some 69), none, .bin .mul false 29 (.t 67) (.t 68)⟩,
         ⟨(some 70), none, .callV (.c (.fn (.func 25) [] [])) [(.t 69)]⟩,
         ⟨(some 71), none, .move (.t 2)⟩,
         ⟨(some 72), none, .callV (.c (.fn (.func 24) [] [])) [(.t 66), (.t 70), (.t 71)]⟩,
         ⟨(some 65), none, .move (.t 72)⟩,
         ⟨(some 73), none, .extract 0 (.t 65)⟩,
         ⟨(some 74), none, .extract 1 (.t 65)⟩,
         ⟨(some 17), none, .move (.t 73)⟩,
         ⟨(some 18), none, .move (.t 74)⟩])
       (.seq (.ops [
          ⟨(some 76), none, .move (.t 1)⟩,
          ⟨(some 77), none, .move (.t 3)⟩,
          ⟨(some 78), none, .callV (.c (.fn (.func 25) [] [])) [(.t 77)]⟩,
          ⟨(some 79), none, .move (.t 2)⟩,
          ⟨(some 80), none, .callV (.c (.fn (.func 24) [] [])) [(.t 76), (.t 78), (.t 79)]⟩,
          ⟨(some 75), none, .move (.t 80)⟩,
          ⟨(some 81), none, .extract 0 (.t 75)⟩,
          ⟨(some 82), none, .extract 1 (.t 75)⟩,
          ⟨(some 19), none, .move (.t 81)⟩,
          ⟨(some 20), none, .move (.t 82)⟩])
        (.seq (.ops [
           ⟨(some 84), none, .move (.t 13)⟩,
           ⟨(some 85), none, .move (.t 19)⟩,
           ⟨(some 86), none, .move (.t 2)⟩,
           ⟨(some 87), none, .callV (.c (.fn (.func 26) [] [])) [(.t 84), (.t 85), (.t 86)]⟩,
           ⟨(some 83), none, .move (.t 87)⟩,
           ⟨(some 88), none, .extract 0 (.t 83)⟩,
           ⟨(some 89), none, .extract 1 (.t 83)⟩,
           ⟨(some 21), none, .move (.t 88)⟩,
           ⟨(some 22), none, .move (.t 89)⟩])
         (.seq (.ops [
            ⟨(some 91), none, .move (.t 0)⟩,
            ⟨(some 92), none, .move (.t 1)⟩,
            ⟨(some 93), none, .callV (.c (.fn (.func 27) [] [])) [(.t 91), (.t 92)]⟩,
            ⟨(some 94), none, .move (.t 3)⟩,
            ⟨(some 95), none, .callV (.c (.fn (.func 25) [] [])) [(.t 94)]⟩,
            ⟨(some 96), none, .move (.t 2)⟩,
            ⟨(some 97), none, .callV (.c (.fn (.func 24) [] [])) [(.t 93), (.t 95), (.t 96)]⟩,
            ⟨(some 90), none, .move (.t 97)⟩,
            ⟨(some 98), none, .extract 0 (.t 90)⟩,
            ⟨(some 99), none, .extract 1 (.t 90)⟩,
            ⟨(some 23), none, .move (.t 98)⟩,
            ⟨(some 24), none, .move (.t 99)⟩])
          (.seq (.ops [
             ⟨(some 100), none, .buildSl 1 7 [(.u 0), (.u 0), (.u 0), (.u 0), (.u 0), (.u 0), (.u 0)] [(0, 1, (.c (.u 2))), (1, 1, (.c (.u 3))), (2, 1, (.c (.u 5))), (3, 1, (.c (.u 7))), (4, 1, (.c (.u 251))), (5, 1, (.c (.u 65537))), (6, 1, (.c (.u 4294967291)))]⟩,
             ⟨(some 25), none, .move (.t 100)⟩])
           (.seq (.ops [
              ⟨(some 101), none, .move (.t 25)⟩,
              ⟨(some 102), none, .move (.t 5)⟩,
              ⟨(some 103), none, .move (.t 25)⟩,
              ⟨(some 104), none, .lenSl (.t 103)⟩,
              ⟨(some 105), none, .callV (.c (.fn (.func 28) [] [])) [(.t 102), (.t 104)]⟩,
              ⟨(some 106), none, .ixAddr 1 (.t 101) (.t 105)⟩,
              ⟨(some 107), none, .load1 (.t 106)⟩,
              ⟨(some 108), none, .callV (.c (.fn (.func 25) [] [])) [(.t 107)]⟩,
              ⟨(some 26), none, .move (.t 108)⟩])
            (.seq (.ops [
               ⟨(some 110), none, .move (.t 0)⟩,
               ⟨(some 111), none, .move (.t 26)⟩,
               ⟨(some 112), none, .move (.t 26)⟩,
               ⟨(some 113), none, .callV (.c (.fn (.func 24) [] [])) [(.t 110), (.t 111), (.t 112)]⟩,
               ⟨(some 109), none, .move (.t 113)⟩,
               ⟨(some 114), none, .extract 0 (.t 109)⟩,
               ⟨(some 115), none, .extract 1 (.t 109)⟩,
               ⟨(some 27), none, .move (.t 114)⟩,
               ⟨(some 28), none, .move (.t 115)⟩])
             (.seq (.ops [
                ⟨(some 117), none, .move (.t 0)⟩,
                ⟨(some 118), none, .move (.t 26)⟩,
                ⟨(some 119), none, .callV (.c (.fn (.func 29) [] [])) [(.t 117), (.t 118)]⟩,
                ⟨(some 116), none, .move (.t 119)⟩,
                ⟨(some 120), none, .extract 0 (.t 116)⟩,
                ⟨(some 121), none, .extract 1 (.t 116)⟩,
                ⟨(some 122), none, .extract 2 (.t 116)⟩,
                ⟨(some 29), none, .move (.t 120)⟩,
                ⟨(some 30), none, .move (.t 121)⟩,
                ⟨(some 31), none, .move (.t 122)⟩])
              (.seq (.ops [
                 ⟨(some 123), none, .move (.t 14)⟩,
                 ⟨(some 124), none, .bin .eql true 25 (.t 123) (.c (.i 0))⟩,
                 ⟨(some 125), none, .move (.t 124)⟩,
                 ⟨(some 126), (some (125, true)), .move (.t 28)⟩,
                 ⟨(some 127), (some (125, true)), .bin .eql true 25 (.t 126) (.c (.i 0))⟩,
                 ⟨(some 128), none, .pick (.t 125) (.t 127) (.c (.bool false))⟩,
                 ⟨(some 129), none, .move (.t 128)⟩,
                 ⟨(some 130), (some (129, true)), .move (.t 15)⟩,
                 ⟨(some 131), (some (129, true)), .move (.t 17)⟩,
                 ⟨(some 132), (some (129, true)), .callV (.c (.fn (.func 19) [] [])) [(.t 130), (.t 131)]⟩,
                 ⟨(some 133), none, .pick (.t 129) (.t 132) (.c (.bool false))⟩,
                 ⟨(some 134), none, .move (.t 133)⟩,
                 ⟨(some 135), (some (134, true)), .move (.t 21)⟩,
                 ⟨(some 136), (some (134, true)), .move (.t 23)⟩,
                 ⟨(some 137), (some (134, true)), .callV (.c (.fn (.func 19) [] [])) [(.t 135), (.t 136)]⟩,
                 ⟨(some 138), none, .pick (.t 134) (.t 137) (.c (.bool false))⟩,
                 ⟨(some 139), none, .move (.t 138)⟩,
                 ⟨(some 140), (some (139, true)), .move (.t 27)⟩,
                 ⟨(some 141), (some (139, true)), .move (.t 30)⟩,
                 ⟨(some 142), (some (139, true)), .callV (.c (.fn (.func 19) [] [])) [(.t 140), (.t 141)]⟩,
                 ⟨(some 143), none, .pick (.t 139) (.t 142) (.c (.bool false))⟩,
                 ⟨(some 12), none, .move (.t 143)⟩])
               .ret)))))))))))))))
theorem r_law03_ModularPowers : resFn Try.prog 5 = some ⟨144, c_law03_ModularPowers.r, [.tmp 12]⟩ := by kernel_rfl
theorem k_law03_ModularPowers : c_law03_ModularPowers.ok = true := by kernel_rfl



theorem small_mod (x : UInt64) : (modU x 1024).toNat < 1024 := by
  rw [modU_eq, UInt64.toNat_mod]
  exact Nat.mod_lt _ (by decide)
theorem primes_at (k : Nat) (h : k < 7) : ∃ p : UInt64, [LV.u 2, .u 3, .u 5, .u 7, .u 251, .u 65537, .u 4294967291][k]? = some (.u p) ∧ Prm p.toNat := by
  match k, h with
  | 0, _ => exact ⟨2, rfl, prm_2⟩
  | 1, _ => exact ⟨3, rfl, prm_3⟩
  | 2, _ => exact ⟨5, rfl, prm_5⟩
  | 3, _ => exact ⟨7, rfl, prm_7⟩
  | 4, _ => exact ⟨251, rfl, prm_251⟩
  | 5, _ => exact ⟨65537, rfl, prm_65537⟩
  | 6, _ => exact ⟨4294967291, rfl, prm_big⟩
theorem law03_ModularPowers_run (a b n : List UInt64) (x y : UInt64) (l : Int) (_ : a.length ≤ 9223372036854775807) (_ : b.length ≤ 9223372036854775807) (hnl : n.length ≤ 9223372036854775807) (_ : -9223372036854775808 ≤ l ∧ l < 9223372036854775808) : CallL Try.prog (.fn 5) [LU a, LU b, LU n, .u x, .u y, .i l] [] fun v _ => v = .bool true := by
  refine call_body r_law03_ModularPowers k_law03_ModularPowers (by simp) ?_
  simp [c_law03_ModularPowers]
  refine CallL_F law03_lives_ok (by simp) ?_
  simp
  refine CallL_F (law03_light_ok a b n) (by simp) ?_
  by_cases h1 : a.length ≤ 5 ∧ b.length ≤ 5 ∧ n.length ≤ 5
  rotate_left
  · rw [decide_eq_false h1]; simp
  obtain ⟨la, lb, ln⟩ := h1
  have h1 : a.length ≤ 5 ∧ b.length ≤ 5 ∧ n.length ≤ 5 := ⟨la, lb, ln⟩
  rw [decide_eq_true h1]
  simp
  refine CallL_F (ref02_Trim_ok n (by omega)) (by simp) ?_
  by_cases hz : val n = 0
  · simp [RU, hz, toL_zero]
  have hne2 : toL (val n) ≠ [] := fun e => hz (toL_eq_nil.1 e)
  have hne : ¬ ((toL (val n)).length : Int) = 0 := by
    have := List.length_pos_iff.2 hne2
    omega
  have hp : 0 < val n := by omega
  have hml : ∀ z, (toL (z % val n)).length ≤ n.length := fun z => toL_len_lt (Nat.mod_lt _ hp)
  simp [RU, hne, hne2]
  have sx := small_mod x
  have sy := small_mod y
  generalize modU x 1024 = x at *
  generalize modU y 1024 = y at *
  have hxy : (mulU x y).toNat = x.toNat * y.toNat := by
    have : x.toNat * y.toNat < 1024 * 1024 := Nat.mul_lt_mul'' sx sy
    rw [mulU_eq, UInt64.toNat_mul, Nat.mod_eq_of_lt (by omega)]
  have lx := one_len x
  have ly := one_len y
  have lxy := one_len (mulU x y)
  refine CallL_F (law03_one_ok x) (by simp) ?_
  simp [RU]
  refine CallL_V (modular_Pow_ok a (toL x.toNat) n (by omega) (by omega) (by omega)) (by simp) ?_
  rw [mE_p hz, mR_p hz, val_toL]
  obtain ⟨u, hu⟩ : ∃ r, val a ^ x.toNat % val n = r := ⟨_, rfl⟩
  have lu := hml (val a ^ x.toNat)
  rw [hu] at lu ⊢
  simp
  refine CallL_F (law03_one_ok y) (by simp) ?_
  simp [RU]
  refine CallL_V (modular_Pow_ok (toL u) (toL y.toNat) n (by omega) (by omega) (by omega)) (by simp) ?_
  rw [mE_p hz, mR_p hz, val_toL, val_toL]
  obtain ⟨v, hv⟩ : ∃ r, u ^ y.toNat % val n = r := ⟨_, rfl⟩
  have lv := hml (u ^ y.toNat)
  rw [hv] at lv ⊢
  simp
  refine CallL_F (law03_one_ok (mulU x y)) (by simp) ?_
  simp [RU]
  refine CallL_V (modular_Pow_ok a (toL (mulU x y).toNat) n (by omega) (by omega) (by omega)) (by simp) ?_
  rw [mE_p hz, mR_p hz, val_toL, hxy]
  obtain ⟨w, hw⟩ : ∃ r, val a ^ (x.toNat * y.toNat) % val n = r := ⟨_, rfl⟩
  have lw := hml (val a ^ (x.toNat * y.toNat))
  rw [hw] at lw ⊢
  simp
  refine CallL_F (law03_one_ok x) (by simp) ?_
  simp [RU]
  refine CallL_V (modular_Pow_ok b (toL x.toNat) n (by omega) (by omega) (by omega)) (by simp) ?_
  rw [mE_p hz, mR_p hz, val_toL]
  obtain ⟨p, hp'⟩ : ∃ r, val b ^ x.toNat % val n = r := ⟨_, rfl⟩
  have lp := hml (val b ^ x.toNat)
  rw [hp'] at lp ⊢
  simp
  refine CallL_F (modular_Mul_ok (toL u) (toL p) n (by omega) (by omega) (by omega)) (by simp) ?_
  rw [mE_p hz, mR_p hz, val_toL, val_toL]
  obtain ⟨q, hq⟩ : ∃ r, u * p % val n = r := ⟨_, rfl⟩
  have lq := hml (u * p)
  rw [hq] at lq ⊢
  simp [RU]
  refine CallL_F (ref02_Mul_ok a b (by omega) (by omega)) (by simp) ?_
  have lab := toL_mul_len a b
  simp [RU]
  refine CallL_F (law03_one_ok x) (by simp) ?_
  simp [RU]
  refine CallL_V (modular_Pow_ok (toL (val a * val b)) (toL x.toNat) n (by omega) (by omega) (by omega)) (by simp) ?_
  rw [mE_p hz, mR_p hz, val_toL, val_toL]
  obtain ⟨r, hr⟩ : ∃ r, (val a * val b) ^ x.toNat % val n = r := ⟨_, rfl⟩
  have lr := hml ((val a * val b) ^ x.toNat)
  rw [hr] at lr ⊢
  simp
  obtain ⟨k, hk, hpick⟩ := kit_Pick_ok l 7 (by omega)
  refine CallL_F hpick (by simp) ?_
  obtain ⟨m, hm, hprm⟩ := primes_at k (by omega)
  have hm0 : m.toNat ≠ 0 := by have := hprm.1; omega
  have lm := one_len m
  have hk7 : (k : Int) < 7 := hk
  simp [hk7]
  refine ⟨.u m, hm, ?_⟩
  simp
  refine CallL_F (law03_one_ok m) (by simp) ?_
  simp [RU]
  refine CallL_V (modular_Pow_ok a (toL m.toNat) (toL m.toNat) (by omega) (by omega) (by omega)) (by simp) ?_
  rw [val_toL, mE_p hm0, mR_p hm0, fermat hprm]
  have ls := toL_len_lt (b := toL m.toNat) (n := val a % m.toNat) (by rw [val_toL]; exact Nat.mod_lt _ (by omega))
  simp
  refine CallL_F (ref02_Div_ok a (toL m.toNat) (by omega) (by omega)) (by simp) ?_
  rw [val_toL]
  -- the plain law
  have evw : v = w := by rw [← hv, ← hw, ← hu, Nat.pow_mul, ← Nat.pow_mod]
  have eqr : q = r := by rw [← hq, ← hr, ← hu, ← hp', Nat.mul_pow]; simp
  subst evw eqr
  simp [RU, hm0]
  refine CallL_F (kit_Same_ok (toL v) (toL v) (by omega)) (by simp) ?_
  simp
  refine CallL_F (kit_Same_ok (toL q) (toL q) (by omega)) (by simp) ?_
  simp
  refine CallL_F (kit_Same_ok (toL (val a % m.toNat)) (toL (val a % m.toNat)) (by omega)) (by simp) ?_
  simp
end Go.Proofs.Ytlfffpmdofacjaa
