/- The statement ModularInverse: its walk. -/
import Derived.Test.YtlfffpmdofacjaaFnR
namespace Go.Proofs.Ytlfffpmdofacjaa
open Go.Sv
set_option linter.unusedSimpArgs false

def c_law03_ModularInverse : LC :=
 (.seq (.ops [
   ⟨(some 6), none, .move (.c (.bool false))⟩])
 (.seq (.seq (.ops [
     ⟨(some 30), none, .callV (.c (.fn (.func 22) [] [])) []⟩,
     ⟨(some 31), none, .un .not (.t 30)⟩])
   (.cond (.t 31)
    (.seq (.ops [
       ⟨(some 6), none, .move (.c (.bool false))⟩])
     .ret)
    .skip))
  (.seq (.seq (.ops [
      ⟨(some 32), none, .move (.t 0)⟩,
      ⟨(some 33), none, .move (.t 1)⟩,
      ⟨(some 34), none, .move (.t 2)⟩,
      ⟨(some 35), none, .callV (.c (.fn (.func 23) [] [])) [(.t 32), (.t 33), (.t 34)]⟩,
      ⟨(some 36), none, .un .not (.t 35)⟩,
      ⟨(some 37), none, .move (.t 36)⟩,
      ⟨(some 38), (some (37, false)), .move (.t 1)⟩,
      ⟨(some 39), (some (37, false)), .callV (.c (.fn (.func 18) [] [])) [(.t 38)]⟩,
      ⟨(some 40), (some (37, false)), .lenSl (.t 39)⟩,
      ⟨(some 41), (some (37, false)), .bin .eql true 3 (.t 40) (.c (.i 0))⟩,
      ⟨(some 42), none, .pick (.t 37) (.c (.bool true)) (.t 41)⟩])
    (.cond (.t 42)
     (.seq (.ops [
        ⟨(some 6), none, .move (.c (.bool true))⟩])
      .ret)
     .skip))
   (.seq (.ops [
      ⟨(some 43), none, .move (.t 0)⟩,
      ⟨(some 44), none, .move (.t 1)⟩,
      ⟨(some 45), none, .callV (.c (.fn (.func 34) [] [])) [(.t 43), (.t 44)]⟩,
      ⟨(some 7), none, .move (.t 45)⟩])
    (.seq (.ops [
       ⟨(some 47), none, .move (.t 0)⟩,
       ⟨(some 48), none, .move (.t 1)⟩,
       ⟨(some 49), none, .callV (.c (.fn (.func 35) [] [])) [(.t 47), (.t 48)]⟩,
       ⟨(some 46), none, .move (.t 49)⟩,
       ⟨(some 50), none, .extract 0 (.t 46)⟩,
       ⟨(some 51), none, .extract 1 (.t 46)⟩,
       ⟨(some 8), none, .move (.t 50)⟩,
       ⟨(some 9), none, .move (.t 51)⟩])
     (.seq (.ops [
        ⟨(some 53), none, .move (.t 0)⟩,
        ⟨(some 54), none, .move (.t 8)⟩,
        ⟨(some 55), none, .move (.t 1)⟩,
        ⟨(some 56), none, .callV (.c (.fn (.func 26) [] [])) [(.t 53), (.t 54), (.t 55)]⟩,
        ⟨(some 52), none, .move (.t 56)⟩,
        ⟨(some 57), none, .extract 0 (.t 52)⟩,
        ⟨(some 58), none, .extract 1 (.t 52)⟩,
        ⟨(some 10), none, .move (.t 57)⟩,
        ⟨(some 11), none, .move (.t 58)⟩])
      (.seq (.ops [
         ⟨(some 60), none, .callV (.c (.fn (.func 25) [] [])) [(.c (.u 1))]⟩,
         ⟨(some 61), none, .move (.t 1)⟩,
         ⟨(some 62), none, .callV (.c (.fn (.func 29) [] [])) [(.t 60), (.t 61)]⟩,
         ⟨(some 59), none, .move (.t 62)⟩,
         ⟨(some 63), none, .extract 0 (.t 59)⟩,
         ⟨(some 64), none, .extract 1 (.t 59)⟩,
         ⟨(some 65), none, .extract 2 (.t 59)⟩,
         ⟨(some 12), none, .move (.t 63)⟩,
         ⟨(some 13), none, .move (.t 64)⟩,
         ⟨(some 14), none, .move (.t 65)⟩])
       (.seq (.seq (.ops [
           ⟨(some 66), none, .move (.t 9)⟩,
           ⟨(some 67), none, .bin .eql true 25 (.t 66) (.c (.i 0))⟩,
           ⟨(some 68), none, .move (.t 7)⟩,
           ⟨(some 69), none, .callV (.c (.fn (.func 25) [] [])) [(.c (.u 1))]⟩,
           ⟨(some 70), none, .callV (.c (.fn (.func 19) [] [])) [(.t 68), (.t 69)]⟩,
           ⟨(some 71), none, .bin .neq false 4 (.t 67) (.t 70)⟩,
           ⟨(some 72), none, .move (.t 71)⟩,
           ⟨(some 73), (some (72, false)), .move (.t 9)⟩,
           ⟨(some 74), (some (72, false)), .bin .eql true 25 (.t 73) (.c (.i 0))⟩,
           ⟨(some 75), (some (72, false)), .move (.t 74)⟩,
           ⟨(some 76), (some (75, true)), .move (.t 10)⟩,
           ⟨(some 77), (some (75, true)), .move (.t 13)⟩,
           ⟨(some 78), (some (75, true)), .callV (.c (.fn (.func 19) [] [])) [(.t 76), (.t 77)]⟩,
           ⟨(some 79), (some (75, true)), .un .not (.t 78)⟩,
           ⟨(some 80), (some (75, true)), .move (.t 79)⟩,
           ⟨(some 81), (some (80, false)), .move (.t 8)⟩,
           ⟨(some 82), (some (80, false)), .move (.t 1)⟩,
           ⟨(some 83), (some (80, false)), .callV (.c (.fn (.func 32) [] [])) [(.t 81), (.t 82)]⟩,
           ⟨(some 84), (some (80, false)), .bin .geq true 3 (.t 83) (.c (.i 0))⟩,
           ⟨(some 85), (some (75, true)), .pick (.t 80) (.c (.bool true)) (.t 84)⟩,
           ⟨(some 86), (some (72, false)), .pick (.t 75) (.t 85) (.c (.bool false))⟩,
           ⟨(some 87), none, .pick (.t 72) (.c (.bool true)) (.t 86)⟩,
           ⟨(some 88), none, .move (.t 87)⟩,
           ⟨(some 89), (some (88, false)), .move (.t 9)⟩,
           ⟨(some 90), (some (88, false)), .bin .neq true 25 (.t 89) (.c (.i 0))⟩,
           ⟨(some 91), (some (88, false)), .move (.t 90)⟩,
           ⟨(some 92), (some (91, true)), .move (.t 9)⟩,
           ⟨(some 93), (some (91, true)), .bin .neq true 25 (.t 92) (.c (.i 5))⟩,
           ⟨(some 94), (some (88, false)), .pick (.t 91) (.t 93) (.c (.bool false))⟩,
           ⟨(some 95), none, .pick (.t 88) (.c (.bool true)) (.t 94)⟩])
         (.cond (.t 95)
          (.seq (.ops [
             ⟨(some 6), none, .move (.c (.bool false))⟩])
           .ret)
          .skip))
        (.seq (.ops [
           ⟨(some 97), none, .move (.t 0)⟩,
           ⟨(some 98), none, .move (.t 7)⟩,
           ⟨(some 99), none, .callV (.c (.fn (.func 29) [] [])) [(.t 97), (.t 98)]⟩,
           ⟨(some 96), none, .move (.t 99)⟩,
           ⟨(some 100), none, .extract 0 (.t 96)⟩,
           ⟨(some 101), none, .extract 1 (.t 96)⟩,
           ⟨(some 102), none, .extract 2 (.t 96)⟩,
           ⟨(some 15), none, .move (.t 100)⟩,
           ⟨(some 16), none, .move (.t 101)⟩,
           ⟨(some 17), none, .move (.t 102)⟩])
         (.seq (.ops [
            ⟨(some 104), none, .move (.t 1)⟩,
            ⟨(some 105), none, .move (.t 7)⟩,
            ⟨(some 106), none, .callV (.c (.fn (.func 29) [] [])) [(.t 104), (.t 105)]⟩,
            ⟨(some 103), none, .move (.t 106)⟩,
            ⟨(some 107), none, .extract 0 (.t 103)⟩,
            ⟨(some 108), none, .extract 1 (.t 103)⟩,
            ⟨(some 109), none, .extract 2 (.t 103)⟩,
            ⟨(some 18), none, .move (.t 107)⟩,
            ⟨(some 19), none, .move (.t 108)⟩,
            ⟨(some 20), none, .move (.t 109)⟩])
          (.seq (.seq (.ops [
              ⟨(some 110), none, .move (.t 17)⟩,
              ⟨(some 111), none, .bin .neq true 25 (.t 110) (.c (.i 0))⟩,
              ⟨(some 112), none, .move (.t 111)⟩,
              ⟨(some 113), (some (112, false)), .move (.t 20)⟩,
              ⟨(some 114), (some (112, false)), .bin .neq true 25 (.t 113) (.c (.i 0))⟩,
              ⟨(some 115), none, .pick (.t 112) (.c (.bool true)) (.t 114)⟩,
              ⟨(some 116), none, .move (.t 115)⟩,
              ⟨(some 117), (some (116, false)), .move (.t 16)⟩,
              ⟨(some 118), (some (116, false)), .lenSl (.t 117)⟩,
              ⟨(some 119), (some (116, false)), .move (.t 19)⟩,
              ⟨(some 120), (some (116, false)), .lenSl (.t 119)⟩,
              ⟨(some 121), (some (116, false)), .bin .add false 3 (.t 118) (.t 120)⟩,
              ⟨(some 122), (some (116, false)), .bin .gtr true 3 (.t 121) (.c (.i 0))⟩,
              ⟨(some 123), none, .pick (.t 116) (.c (.bool true)) (.t 122)⟩])
            (.cond (.t 123)
             (.seq (.ops [
                ⟨(some 6), none, .move (.c (.bool false))⟩])
              .ret)
             .skip))
           (.seq (.ops [
              ⟨(some 125), none, .move (.t 0)⟩,
              ⟨(some 126), none, .move (.t 2)⟩,
              ⟨(some 127), none, .callV (.c (.fn (.func 29) [] [])) [(.t 125), (.t 126)]⟩,
              ⟨(some 124), none, .move (.t 127)⟩,
              ⟨(some 128), none, .extract 0 (.t 124)⟩,
              ⟨(some 129), none, .extract 1 (.t 124)⟩,
              ⟨(some 130), none, .extract 2 (.t 124)⟩,
              ⟨(some 21), none, .move (.t 128)⟩,
              ⟨(some 22), none, .move (.t 129)⟩,
              ⟨(some 23), none, .move (.t 130)⟩])
            (.seq (.ops [
               ⟨(some 132), none, .move (.t 1)⟩,
               ⟨(some 133), none, .move (.t 2)⟩,
               ⟨(some 134), none, .callV (.c (.fn (.func 29) [] [])) [(.t 132), (.t 133)]⟩,
               ⟨(some 131), none, .move (.t 134)⟩,
               ⟨(some 135), none, .extract 0 (.t 131)⟩,
               ⟨(some 136), none, .extract 1 (.t 131)⟩,
               ⟨(some 137), none, .extract 2 (.t 131)⟩,
               ⟨(some 24), none, .move (.t 135)⟩,
               ⟨(some 25), none, .move (.t 136)⟩,
               ⟨(some 26), none, .move (.t 137)⟩])
             (.seq (.ops [
                ⟨(some 139), none, .move (.t 7)⟩,
                ⟨(some 140), none, .move (.t 2)⟩,
                ⟨(some 141), none, .callV (.c (.fn (.func 29) [] [])) [(.t 139), (.t 140)]⟩,
                ⟨(some 138), none, .move (.t 141)⟩,
                ⟨(some 142), none, .extract 0 (.t 138)⟩,
                ⟨(some 143), none, .extract 1 (.t 138)⟩,
                ⟨(some 144), none, .extract 2 (.t 138)⟩,
                ⟨(some 27), none, .move (.t 142)⟩,
                ⟨(some 28), none, .move (.t 143)⟩,
                ⟨(some 29), none, .move (.t 144)⟩])
              (.seq (.ops [
                 ⟨(some 145), none, .move (.t 23)⟩,
                 ⟨(some 146), none, .bin .neq true 25 (.t 145) (.c (.i 0))⟩,
                 ⟨(some 147), none, .move (.t 146)⟩,
                 ⟨(some 148), (some (147, false)), .move (.t 22)⟩,
                 ⟨(some 149), (some (147, false)), .lenSl (.t 148)⟩,
                 ⟨(some 150), (some (147, false)), .move (.t 25)⟩,
                 ⟨(some 151), (some (147, false)), .lenSl (.t 150)⟩,
                 ⟨(some 152), (some (147, false)), .bin .add false 3 (.t 149) (.t 151)⟩,
                 ⟨(some 153), (some (147, false)), .bin .gtr true 3 (.t 152) (.c (.i 0))⟩,
                 ⟨(some 154), none, .pick (.t 147) (.c (.bool true)) (.t 153)⟩,
                 ⟨(some 155), none, .move (.t 154)⟩,
                 ⟨(some 156), (some (155, false)), .move (.t 28)⟩,
                 ⟨(some 157), (some (155, false)), .lenSl (.t 156)⟩,
                 ⟨(some 158), (some (155, false)), .bin .eql true 3 (.t 157) (.c (.i 0))⟩,
                 ⟨(some 159), none, .pick (.t 155) (.c (.bool true)) (.t 158)⟩,
                 ⟨(some 6), none, .move (.t 159)⟩])
               .ret)))))))))))))))
theorem r_law03_ModularInverse : resFn Try.prog 7 = some ⟨160, c_law03_ModularInverse.r, [.tmp 6]⟩ := by kernel_rfl
theorem k_law03_ModularInverse : c_law03_ModularInverse.ok = true := by kernel_rfl



theorem hd_len (x : Nat) : (x ≠ 0 → 0 < (toL x).length) ∧ (x = 0 → (toL x).length = 0) := ⟨fun h => List.length_pos_iff.2 (fun e => h (toL_eq_nil.1 e)), fun h => by rw [h]; rfl⟩
theorem eqb (a b : Bool) : eqA Try.prog false 4 (.bool a) (.bool b) = some (a == b) := by cases a <;> cases b <;> kernel_rfl
theorem law03_ModularInverse_run (a n d : List UInt64) (_ : a.length ≤ 9223372036854775807) (hnl : n.length ≤ 9223372036854775807) (_ : d.length ≤ 9223372036854775807) : CallL Try.prog (.fn 7) [LU a, LU n, LU d] [] fun v _ => v = .bool true := by
  refine call_body r_law03_ModularInverse k_law03_ModularInverse (by simp) ?_
  simp [c_law03_ModularInverse]
  refine CallL_F law03_lives_ok (by simp) ?_
  simp
  refine CallL_F (law03_light_ok a n d) (by simp) ?_
  by_cases h1 : a.length ≤ 5 ∧ n.length ≤ 5 ∧ d.length ≤ 5
  rotate_left
  · rw [decide_eq_false h1]; simp
  obtain ⟨la, ln, ld⟩ := h1
  have h1 : a.length ≤ 5 ∧ n.length ≤ 5 ∧ d.length ≤ 5 := ⟨la, ln, ld⟩
  rw [decide_eq_true h1]
  simp
  refine CallL_F (ref02_Trim_ok n (by omega)) (by simp) ?_
  by_cases hz : val n = 0
  · simp [RU, hz, toL_zero]
  have hne2 : toL (val n) ≠ [] := fun e => hz (toL_eq_nil.1 e)
  have hne : ¬ ((toL (val n)).length : Int) = 0 := by
    have := List.length_pos_iff.2 hne2
    omega
  have hp : 0 < val n := by omega
  have hm : ∀ z, z % val n < val n := fun z => Nat.mod_lt _ hp
  have hml : ∀ z, (toL (z % val n)).length ≤ n.length := fun z => toL_len_lt (hm z)
  simp [RU, hne, hne2]
  refine CallL_V (modular_Gcd_ok a n (by omega) (by omega)) (by simp) ?_
  obtain ⟨g, hg⟩ : ∃ g, Nat.gcd (val a) (val n) = g := ⟨_, rfl⟩
  have hg0 : g ≠ 0 := by rw [← hg]; exact fun e => hz (Nat.eq_zero_of_gcd_eq_zero_right e)
  have lg : (toL g).length ≤ n.length := by rw [← hg]; exact toL_len_le (Nat.gcd_le_right _ hp)
  rw [hg]
  simp
  refine CallL_V (modular_Inverse_ok a n (by omega) (by omega)) (by simp) ?_
  have o1 : (1 : UInt64).toNat = 1 := rfl
  have l1 := one_len 1
  rw [o1] at l1
  have hga : val a % g = 0 := by rw [← hg]; exact Nat.mod_eq_zero_of_dvd (Nat.gcd_dvd_left _ _)
  have hgn : val n % g = 0 := by rw [← hg]; exact Nat.mod_eq_zero_of_dvd (Nat.gcd_dvd_right _ _)
  by_cases hg1 : g = 1
  · have hgcd : Nat.gcd (val a) (val n) = 1 := by rw [hg]; exact hg1
    obtain ⟨i1, i2⟩ := invN_spec hz hgcd
    have e1 : ivE (val a) (val n) = 0 := by simp [ivE, hz, hgcd]
    have e2 : ivR (val a) (val n) = toL (invN (val a) (val n)) := by simp [ivR, hz, hgcd]
    rw [e1, e2]
    obtain ⟨x, hx⟩ : ∃ x, invN (val a) (val n) = x := ⟨_, rfl⟩
    rw [hx] at i1 i2 ⊢
    have lx := toL_len_lt (b := n) i1
    subst hg1
    simp
    refine CallL_F (modular_Mul_ok a (toL x) n (by omega) (by omega) (by omega)) (by simp) ?_
    rw [mE_p hz, mR_p hz, val_toL, i2]
    have l2 := hml 1
    simp [RU]
    refine CallL_F (law03_one_ok 1) (by simp) ?_
    simp [RU]
    refine CallL_F (ref02_Div_ok (toL 1) n (by omega) (by omega)) (by simp) ?_
    rw [val_toL]
    simp [RU, hz]
    refine CallL_F (law03_one_ok 1) (by simp) ?_
    simp [RU]
    refine CallL_F (kit_Same_ok (toL 1) (toL 1) (by omega)) (by simp) ?_
    simp [eqb]
    refine CallL_F (kit_Same_ok (toL (1 % val n)) (toL (1 % val n)) (by omega)) (by simp) ?_
    have i1' : ¬ 0 ≤ cmpN x (val n) := by rw [cmpN_ge]; omega
    simp
    refine CallL_F (ref02_Compare_ok (toL x) n (by omega) (by omega)) (by simp) ?_
    rw [val_toL]
    simp [i1']
    refine CallL_F (ref02_Div_ok a (toL 1) (by omega) (by omega)) (by simp) ?_
    rw [val_toL, hga]
    simp [RU, toL_zero]
    refine CallL_F (ref02_Div_ok n (toL 1) (by omega) (by omega)) (by simp) ?_
    rw [val_toL, hgn]
    simp [RU, toL_zero]
    refine CallL_F (ref02_Div_ok a d (by omega) (by omega)) (by simp) ?_
    by_cases hd0 : val d = 0
    · simp [RU, hd0]
      refine CallL_F (ref02_Div_ok n d (by omega) (by omega)) (by simp) ?_
      simp [RU, hd0]
      refine CallL_F (ref02_Div_ok (toL 1) d (by omega) (by omega)) (by simp) ?_
      simp [RU, hd0]
    simp [RU, hd0]
    refine CallL_F (ref02_Div_ok n d (by omega) (by omega)) (by simp) ?_
    simp [RU, hd0]
    refine CallL_F (ref02_Div_ok (toL 1) d (by omega) (by omega)) (by simp) ?_
    rw [val_toL]
    have hdv : val a % val d = 0 → val n % val d = 0 → 1 % val d = 0 := fun h1 h2 => by
      refine Nat.mod_eq_zero_of_dvd ?_
      rw [← hg]
      exact Nat.dvd_gcd (Nat.dvd_of_mod_eq_zero h1) (Nat.dvd_of_mod_eq_zero h2)
    have hla := hd_len (val a % val d)
    have hln := hd_len (val n % val d)
    have lda := toL_len_lt (b := d) (Nat.mod_lt (val a) (show 0 < val d by omega))
    have ldn := toL_len_lt (b := d) (Nat.mod_lt (val n) (show 0 < val d by omega))
    by_cases ha0 : val a % val d = 0
    · by_cases hn0 : val n % val d = 0
      · simp [RU, hd0, ha0, hn0, hdv ha0 hn0, toL_zero]
      · have := hln.1 hn0
        have hpos : (0 : Int) < ((toL (val a % val d)).length : Int) + (toL (val n % val d)).length := by omega
        simp [RU, hd0, hpos]
        omega
    · have := hla.1 ha0
      have hpos : (0 : Int) < ((toL (val a % val d)).length : Int) + (toL (val n % val d)).length := by omega
      simp [RU, hd0, hpos]
      omega
  · have hgcd : ¬ Nat.gcd (val a) (val n) = 1 := by rw [hg]; exact hg1
    have e1 : ivE (val a) (val n) = 5 := by simp [ivE, hz, hgcd]
    have e2 : ivR (val a) (val n) = [] := by simp [ivR, hgcd]
    rw [e1, e2]
    simp
    refine CallL_F (modular_Mul_ok a [] n (by omega) (by simp) (by omega)) (by simp) ?_
    rw [mE_p hz, mR_p hz]
    simp [RU]
    refine CallL_F (law03_one_ok 1) (by simp) ?_
    simp [RU]
    refine CallL_F (ref02_Div_ok (toL 1) n (by omega) (by omega)) (by simp) ?_
    rw [val_toL]
    simp [RU, hz]
    refine CallL_F (law03_one_ok 1) (by simp) ?_
    simp [RU]
    refine CallL_F (kit_Same_ok (toL g) (toL 1) (by omega)) (by simp) ?_
    have hs1 : ¬ toL g = toL 1 := fun e => hg1 (toL_inj e)
    simp [eqb, hs1]
    refine CallL_F (ref02_Div_ok a (toL g) (by omega) (by omega)) (by simp) ?_
    rw [val_toL, hga]
    simp [RU, toL_zero, hg0]
    refine CallL_F (ref02_Div_ok n (toL g) (by omega) (by omega)) (by simp) ?_
    rw [val_toL, hgn]
    simp [RU, toL_zero, hg0]
    refine CallL_F (ref02_Div_ok a d (by omega) (by omega)) (by simp) ?_
    by_cases hd0 : val d = 0
    · simp [RU, hd0]
      refine CallL_F (ref02_Div_ok n d (by omega) (by omega)) (by simp) ?_
      simp [RU, hd0]
      refine CallL_F (ref02_Div_ok (toL g) d (by omega) (by omega)) (by simp) ?_
      simp [RU, hd0]
    simp [RU, hd0]
    refine CallL_F (ref02_Div_ok n d (by omega) (by omega)) (by simp) ?_
    simp [RU, hd0]
    refine CallL_F (ref02_Div_ok (toL g) d (by omega) (by omega)) (by simp) ?_
    rw [val_toL]
    have hdv : val a % val d = 0 → val n % val d = 0 → g % val d = 0 := fun h1 h2 => by
      refine Nat.mod_eq_zero_of_dvd ?_
      rw [← hg]
      exact Nat.dvd_gcd (Nat.dvd_of_mod_eq_zero h1) (Nat.dvd_of_mod_eq_zero h2)
    have hla := hd_len (val a % val d)
    have hln := hd_len (val n % val d)
    have lda := toL_len_lt (b := d) (Nat.mod_lt (val a) (show 0 < val d by omega))
    have ldn := toL_len_lt (b := d) (Nat.mod_lt (val n) (show 0 < val d by omega))
    by_cases ha0 : val a % val d = 0
    · by_cases hn0 : val n % val d = 0
      · simp [RU, hd0, ha0, hn0, hdv ha0 hn0, toL_zero]
      · have := hln.1 hn0
        have hpos : (0 : Int) < ((toL (val a % val d)).length : Int) + (toL (val n % val d)).length := by omega
        simp [RU, hd0, hpos]
        omega
    · have := hla.1 ha0
      have hpos : (0 : Int) < ((toL (val a % val d)).length : Int) + (toL (val n % val d)).length := by omega
      simp [RU, hd0, hpos]
      omega
end Go.Proofs.Ytlfffpmdofacjaa
