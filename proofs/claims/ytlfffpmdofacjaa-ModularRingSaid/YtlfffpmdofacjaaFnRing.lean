/- The statement ModularRing: its walk. -/
import Derived.Test.YtlfffpmdofacjaaFnR
namespace Go.Proofs.Ytlfffpmdofacjaa
open Go.Sv
set_option linter.unusedSimpArgs false

def c_law03_ModularRing : LC :=
 (.seq (.ops [
   ⟨(some 12), none, .move (.c (.bool false))⟩])
 (.seq (.seq (.ops [
     ⟨(some 36), none, .callV (.c (.fn (.func 22) [] [])) []⟩,
     ⟨(some 37), none, .un .not (.t 36)⟩])
   (.cond (.t 37)
    (.seq (.ops [
       ⟨(some 12), none, .move (.c (.bool false))⟩])
     .ret)
    .skip))
  (.seq (.seq (.ops [
      ⟨(some 38), none, .move (.t 0)⟩,
      ⟨(some 39), none, .move (.t 1)⟩,
      ⟨(some 40), none, .move (.t 3)⟩,
      ⟨(some 41), none, .callV (.c (.fn (.func 23) [] [])) [(.t 38), (.t 39), (.t 40)]⟩,
      ⟨(some 42), none, .un .not (.t 41)⟩,
      ⟨(some 43), none, .move (.t 42)⟩,
      ⟨(some 44), (some (43, false)), .move (.t 2)⟩,
      ⟨(some 45), (some (43, false)), .lenSl (.t 44)⟩,
      ⟨(some 46), (some (43, false)), .bin .gtr true 3 (.t 45) (.c (.i 5))⟩,
      ⟨(some 47), none, .pick (.t 43) (.c (.bool true)) (.t 46)⟩,
      ⟨(some 48), none, .move (.t 47)⟩,
      ⟨(some 49), (some (48, false)), .move (.t 3)⟩,
      ⟨(some 50), (some (48, false)), .callV (.c (.fn (.func 18) [] [])) [(.t 49)]⟩,
      ⟨(some 51), (some (48, false)), .lenSl (.t 50)⟩,
      ⟨(some 52), (some (48, false)), .bin .eql true 3 (.t 51) (.c (.i 0))⟩,
      ⟨(some 53), none, .pick (.t 48) (.c (.bool true)) (.t 52)⟩])
    (.cond (.t 53)
     (.seq (.ops [
        ⟨(some 12), none, .move (.c (.bool true))⟩])
      .ret)
     .skip))
   (.seq (.ops [
      ⟨(some 54), none, .move (.t 4)⟩,
      ⟨(some 55), none, .bin .rem true 29 (.t 54) (.c (.u 1048576))⟩,
      ⟨(some 56), none, .move (.t 5)⟩,
      ⟨(some 57), none, .bin .rem true 29 (.t 56) (.c (.u 1048576))⟩,
      ⟨(some 4), none, .move (.t 55)⟩,
      ⟨(some 5), none, .move (.t 57)⟩])
    (.seq (.ops [
       ⟨(some 59), none, .move (.t 1)⟩,
       ⟨(some 60), none, .move (.t 2)⟩,
       ⟨(some 61), none, .move (.t 3)⟩,
       ⟨(some 62), none, .callV (.c (.fn (.func 30) [] [])) [(.t 59), (.t 60), (.t 61)]⟩,
       ⟨(some 58), none, .move (.t 62)⟩,
       ⟨(some 63), none, .extract 0 (.t 58)⟩,
       ⟨(some 64), none, .extract 1 (.t 58)⟩,
       ⟨(some 13), none, .move (.t 63)⟩,
       ⟨(some 14), none, .move (.t 64)⟩])
     (.seq (.ops [
        ⟨(some 66), none, .move (.t 0)⟩,
        ⟨(some 67), none, .move (.t 13)⟩,
        ⟨(some 68), none, .move (.t 3)⟩,
        ⟨(some 69), none, .callV (.c (.fn (.func 26) [] [])) [(.t 66), (.t 67), (.t 68)]⟩,
        ⟨(some 65), none, .move (.t 69)⟩,
        ⟨(some 70), none, .extract 0 (.t 65)⟩,
        ⟨(some 71), none, .extract 1 (.t 65)⟩,
        ⟨(some 15), none, .move (.t 70)⟩,
        ⟨(some 16), none, .move (.t 71)⟩])
      (.seq (.ops [
         ⟨(some 73), none, .move (.t 0)⟩,
         ⟨(some 74), none, .move (.t 1)⟩,
         ⟨(some 75), none, .move (.t 3)⟩,
         ⟨(some 76), none, .callV (.c (.fn (.func 26) [] [])) [(.t 73), (.t 74), (.t 75)]⟩,
         ⟨(some 72), none, .move (.t 76)⟩,
         ⟨(some 77), none, .extract 0 (.t 72)⟩,
         ⟨(some 78), none, .extract 1 (.t 72)⟩,
         ⟨(some 17), none, .move (.t 77)⟩,
         ⟨(some 18), none, .move (.t 78)⟩])
       (.seq (.ops [
          ⟨(some 80), none, .move (.t 0)⟩,
          ⟨(some 81), none, .move (.t 2)⟩,
          ⟨(some 82), none, .move (.t 3)⟩,
          ⟨(some 83), none, .callV (.c (.fn (.func 26) [] [])) [(.t 80), (.t 81), (.t 82)]⟩,
          ⟨(some 79), none, .move (.t 83)⟩,
          ⟨(some 84), none, .extract 0 (.t 79)⟩,
          ⟨(some 85), none, .extract 1 (.t 79)⟩,
          ⟨(some 19), none, .move (.t 84)⟩,
          ⟨(some 20), none, .move (.t 85)⟩])
        (.seq (.ops [
           ⟨(some 87), none, .move (.t 17)⟩,
           ⟨(some 88), none, .move (.t 19)⟩,
           ⟨(some 89), none, .move (.t 3)⟩,
           ⟨(some 90), none, .callV (.c (.fn (.func 30) [] [])) [(.t 87), (.t 88), (.t 89)]⟩,
           ⟨(some 86), none, .move (.t 90)⟩,
           ⟨(some 91), none, .extract 0 (.t 86)⟩,
           ⟨(some 92), none, .extract 1 (.t 86)⟩,
           ⟨(some 21), none, .move (.t 91)⟩,
           ⟨(some 22), none, .move (.t 92)⟩])
         (.seq (.ops [
            ⟨(some 94), none, .move (.t 13)⟩,
            ⟨(some 95), none, .move (.t 2)⟩,
            ⟨(some 96), none, .move (.t 3)⟩,
            ⟨(some 97), none, .callV (.c (.fn (.func 31) [] [])) [(.t 94), (.t 95), (.t 96)]⟩,
            ⟨(some 93), none, .move (.t 97)⟩,
            ⟨(some 98), none, .extract 0 (.t 93)⟩,
            ⟨(some 99), none, .extract 1 (.t 93)⟩,
            ⟨(some 23), none, .move (.t 98)⟩,
            ⟨(some 24), none, .move (.t 99)⟩])
          (.seq (.ops [
             ⟨(some 101), none, .move (.t 1)⟩,
             ⟨(some 102), none, .move (.t 3)⟩,
             ⟨(some 103), none, .callV (.c (.fn (.func 29) [] [])) [(.t 101), (.t 102)]⟩,
             ⟨(some 100), none, .move (.t 103)⟩,
             ⟨(some 104), none, .extract 0 (.t 100)⟩,
             ⟨(some 105), none, .extract 1 (.t 100)⟩,
             ⟨(some 106), none, .extract 2 (.t 100)⟩,
             ⟨(some 25), none, .move (.t 104)⟩,
             ⟨(some 26), none, .move (.t 105)⟩,
             ⟨(some 27), none, .move (.t 106)⟩])
           (.seq (.ops [
              ⟨(some 108), none, .move (.t 0)⟩,
              ⟨(some 109), none, .move (.t 4)⟩,
              ⟨(some 110), none, .callV (.c (.fn (.func 25) [] [])) [(.t 109)]⟩,
              ⟨(some 111), none, .move (.t 3)⟩,
              ⟨(some 112), none, .callV (.c (.fn (.func 24) [] [])) [(.t 108), (.t 110), (.t 111)]⟩,
              ⟨(some 107), none, .move (.t 112)⟩,
              ⟨(some 113), none, .extract 0 (.t 107)⟩,
              ⟨(some 114), none, .extract 1 (.t 107)⟩,
              ⟨(some 28), none, .move (.t 113)⟩,
              ⟨(some 29), none, .move (.t 114)⟩])
            (.seq (.ops [
               ⟨(some 116), none, .move (.t 0)⟩,
               ⟨(some 117), none, .move (.t 5)⟩,
               ⟨(some 118), none, .callV (.c (.fn (.func 25) [] [])) [(.t 117)]⟩,
               ⟨(some 119), none, .move (.t 3)⟩,
               ⟨(some 120), none, .callV (.c (.fn (.func 24) [] [])) [(.t 116), (.t 118), (.t 119)]⟩,
               ⟨(some 115), none, .move (.t 120)⟩,
               ⟨(some 121), none, .extract 0 (.t 115)⟩,
               ⟨(some 122), none, .extract 1 (.t 115)⟩,
               ⟨(some 30), none, .move (.t 121)⟩,
               ⟨(some 31), none, .move (.t 122)⟩])
             (.seq (.ops [
                ⟨(some 124), none, .move (.t 28)⟩,
                ⟨(some 125), none, .move (.t 30)⟩,
                ⟨(some 126), none, .move (.t 3)⟩,
                ⟨(some 127), none, .callV (.c (.fn (.func 26) [] [])) [(.t 124), (.t 125), (.t 126)]⟩,
                ⟨(some 123), none, .move (.t 127)⟩,
                ⟨(some 128), none, .extract 0 (.t 123)⟩,
                ⟨(some 129), none, .extract 1 (.t 123)⟩,
                ⟨(some 32), none, .move (.t 128)⟩,
                ⟨(some 33), none, .move (.t 129)⟩])
              (.seq (.ops [
                 ⟨(some 131), none, .move (.t 0)⟩,
                 ⟨(some 132), none, .move (.t 4)⟩,
                 ⟨(some 133), none, .callV (.c (.fn (.func 25) [] [])) [(.t 132)]⟩,
                 ⟨(some 134), none, .move (.t 5)⟩,
                 ⟨(some 135), none, .callV (.c (.fn (.func 25) [] [])) [(.t 134)]⟩,
                 ⟨(some 136), none, .callV (.c (.fn (.func 16) [] [])) [(.t 133), (.t 135)]⟩,
                 ⟨(some 137), none, .move (.t 3)⟩,
                 ⟨(some 138), none, .callV (.c (.fn (.func 24) [] [])) [(.t 131), (.t 136), (.t 137)]⟩,
                 ⟨(some 130), none, .move (.t 138)⟩,
                 ⟨(some 139), none, .extract 0 (.t 130)⟩,
                 ⟨(some 140), none, .extract 1 (.t 130)⟩,
                 ⟨(some 34), none, .move (.t 139)⟩,
                 ⟨(some 35), none, .move (.t 140)⟩])
               (.seq (.ops [
                  ⟨(some 141), none, .move (.t 14)⟩,
                  ⟨(some 142), none, .bin .eql true 25 (.t 141) (.c (.i 0))⟩,
                  ⟨(some 143), none, .move (.t 142)⟩,
                  ⟨(some 144), (some (143, true)), .move (.t 35)⟩,
                  ⟨(some 145), (some (143, true)), .bin .eql true 25 (.t 144) (.c (.i 0))⟩,
                  ⟨(some 146), none, .pick (.t 143) (.t 145) (.c (.bool false))⟩,
                  ⟨(some 147), none, .move (.t 146)⟩,
                  ⟨(some 148), (some (147, true)), .move (.t 15)⟩,
                  ⟨(some 149), (some (147, true)), .move (.t 21)⟩,
                  ⟨(some 150), (some (147, true)), .callV (.c (.fn (.func 19) [] [])) [(.t 148), (.t 149)]⟩,
                  ⟨(some 151), none, .pick (.t 147) (.t 150) (.c (.bool false))⟩,
                  ⟨(some 152), none, .move (.t 151)⟩,
                  ⟨(some 153), (some (152, true)), .move (.t 23)⟩,
                  ⟨(some 154), (some (152, true)), .move (.t 26)⟩,
                  ⟨(some 155), (some (152, true)), .callV (.c (.fn (.func 19) [] [])) [(.t 153), (.t 154)]⟩,
                  ⟨(some 156), none, .pick (.t 152) (.t 155) (.c (.bool false))⟩,
                  ⟨(some 157), none, .move (.t 156)⟩,
                  ⟨(some 158), (some (157, true)), .move (.t 32)⟩,
                  ⟨(some 159), (some (157, true)), .move (.t 34)⟩,
                  ⟨(some 160), (some (157, true)), .callV (.c (.fn (.func 19) [] [])) [(.t 158), (.t 159)]⟩,
                  ⟨(some 161), none, .pick (.t 157) (.t 160) (.c (.bool false))⟩,
                  ⟨(some 162), none, .move (.t 161)⟩,
                  ⟨(some 163), (some (162, true)), .move (.t 13)⟩,
                  ⟨(some 164), (some (162, true)), .move (.t 3)⟩,
                  ⟨(some 165), (some (162, true)), .callV (.c (.fn (.func 32) [] [])) [(.t 163), (.t 164)]⟩,
                  ⟨(some 166), (some (162, true)), .bin .lss true 3 (.t 165) (.c (.i 0))⟩,
                  ⟨(some 167), none, .pick (.t 162) (.t 166) (.c (.bool false))⟩,
                  ⟨(some 168), none, .move (.t 167)⟩,
                  ⟨(some 169), (some (168, true)), .move (.t 15)⟩,
                  ⟨(some 170), (some (168, true)), .move (.t 3)⟩,
                  ⟨(some 171), (some (168, true)), .callV (.c (.fn (.func 32) [] [])) [(.t 169), (.t 170)]⟩,
                  ⟨(some 172), (some (168, true)), .bin .lss true 3 (.t 171) (.c (.i 0))⟩,
                  ⟨(some 173), none, .pick (.t 168) (.t 172) (.c (.bool false))⟩,
                  ⟨(some 174), none, .move (.t 173)⟩,
                  ⟨(some 175), (some (174, true)), .move (.t 34)⟩,
                  ⟨(some 176), (some (174, true)), .move (.t 3)⟩,
                  ⟨(some 177), (some (174, true)), .callV (.c (.fn (.func 32) [] [])) [(.t 175), (.t 176)]⟩,
                  ⟨(some 178), (some (174, true)), .bin .lss true 3 (.t 177) (.c (.i 0))⟩,
                  ⟨(some 179), none, .pick (.t 174) (.t 178) (.c (.bool false))⟩,
                  ⟨(some 180), none, .move (.t 179)⟩,
                  ⟨(some 181), (some (180, true)), .move (.t 34)⟩,
                  ⟨(some 182), (some (180, true)), .callV (.c (.fn (.func 33) [] [])) [(.t 181)]⟩,
                  ⟨(some 183), none, .pick (.t 180) (.t 182) (.c (.bool false))⟩,
                  ⟨(some 12), none, .move (.t 183)⟩])
                .ret))))))))))))))))
theorem r_law03_ModularRing : resFn Try.prog 6 = some ⟨184, c_law03_ModularRing.r, [.tmp 12]⟩ := by kernel_rfl
theorem k_law03_ModularRing : c_law03_ModularRing.ok = true := by kernel_rfl



theorem law03_ModularRing_run (a b c n : List UInt64) (x y : UInt64) (_ : a.length ≤ 9223372036854775807) (_ : b.length ≤ 9223372036854775807) (_ : c.length ≤ 9223372036854775807) (hnl : n.length ≤ 9223372036854775807) : CallL Try.prog (.fn 6) [LU a, LU b, LU c, LU n, .u x, .u y] [] fun v _ => v = .bool true := by
  refine call_body r_law03_ModularRing k_law03_ModularRing (by simp) ?_
  simp [c_law03_ModularRing]
  refine CallL_F law03_lives_ok (by simp) ?_
  simp
  refine CallL_F (law03_light_ok a b n) (by simp) ?_
  by_cases h1 : a.length ≤ 5 ∧ b.length ≤ 5 ∧ n.length ≤ 5
  rotate_left
  · rw [decide_eq_false h1]; simp
  obtain ⟨la, lb, ln⟩ := h1
  have h1 : a.length ≤ 5 ∧ b.length ≤ 5 ∧ n.length ≤ 5 := ⟨la, lb, ln⟩
  rw [decide_eq_true h1]
  by_cases lc : 5 < c.length
  · have lci : (5 : Int) < c.length := by omega
    simp [lci]
  have lci : ¬ (5 : Int) < c.length := by omega
  simp [lci]
  refine CallL_F (ref02_Trim_ok n (by omega)) (by simp) ?_
  by_cases hz : val n = 0
  · simp [RU, hz, toL_zero]
  have hne : ¬ ((toL (val n)).length : Int) = 0 := by
    have : toL (val n) ≠ [] := fun e => hz (toL_eq_nil.1 e)
    have := List.length_pos_iff.2 this
    omega
  have hne2 : toL (val n) ≠ [] := fun e => hz (toL_eq_nil.1 e)
  have hp : 0 < val n := by omega
  have hm : ∀ z, z % val n < val n := fun z => Nat.mod_lt _ hp
  have hml : ∀ z, (toL (z % val n)).length ≤ n.length := fun z => toL_len_lt (hm z)
  simp [RU, hne, hne2]
  generalize modU x 1048576 = x at *
  generalize modU y 1048576 = y at *
  have lx := one_len x
  have ly := one_len y
  refine CallL_F (modular_Add_ok b c n (by omega) (by omega) (by omega)) (by simp) ?_
  rw [mE_p hz, mR_p hz]
  obtain ⟨s, hs⟩ : ∃ s, (val b + val c) % val n = s := ⟨_, rfl⟩
  have ls := hml (val b + val c)
  rw [hs] at ls ⊢
  simp [RU]
  refine CallL_F (modular_Mul_ok a (toL s) n (by omega) (by omega) (by omega)) (by simp) ?_
  rw [mE_p hz, mR_p hz, val_toL]
  obtain ⟨p, hp'⟩ : ∃ p, val a * s % val n = p := ⟨_, rfl⟩
  have lp := hml (val a * s)
  rw [hp'] at lp ⊢
  simp [RU]
  refine CallL_F (modular_Mul_ok a b n (by omega) (by omega) (by omega)) (by simp) ?_
  rw [mE_p hz, mR_p hz]
  obtain ⟨ab, hab⟩ : ∃ s, val a * val b % val n = s := ⟨_, rfl⟩
  have lab := hml (val a * val b)
  rw [hab] at lab ⊢
  simp [RU]
  refine CallL_F (modular_Mul_ok a c n (by omega) (by omega) (by omega)) (by simp) ?_
  rw [mE_p hz, mR_p hz]
  obtain ⟨ac, hac⟩ : ∃ s, val a * val c % val n = s := ⟨_, rfl⟩
  have lac := hml (val a * val c)
  rw [hac] at lac ⊢
  simp [RU]
  refine CallL_F (modular_Add_ok (toL ab) (toL ac) n (by omega) (by omega) (by omega)) (by simp) ?_
  rw [mE_p hz, mR_p hz, val_toL, val_toL]
  obtain ⟨q, hq⟩ : ∃ s, (ab + ac) % val n = s := ⟨_, rfl⟩
  have lq := hml (ab + ac)
  rw [hq] at lq ⊢
  simp [RU]
  refine CallL_F (modular_Sub_ok (toL s) c n (by omega) (by omega) (by omega)) (by simp) ?_
  rw [mE_p hz, mR_p hz, val_toL]
  obtain ⟨d, hd⟩ : ∃ d, subM s (val c) (val n) = d := ⟨_, rfl⟩
  have ld := toL_len_lt (b := n) (subM_lt (a := s) (b := val c) hz)
  rw [hd] at ld ⊢
  simp [RU]
  refine CallL_F (ref02_Div_ok b n (by omega) (by omega)) (by simp) ?_
  simp [RU, hz]
  obtain ⟨r, hr⟩ : ∃ r, val b % val n = r := ⟨_, rfl⟩
  have lr := hml (val b)
  rw [hr] at lr ⊢
  refine CallL_F (law03_one_ok x) (by simp) ?_
  simp [RU]
  refine CallL_V (modular_Pow_ok a (toL x.toNat) n (by omega) (by omega) (by omega)) (by simp) ?_
  rw [mE_p hz, mR_p hz, val_toL]
  obtain ⟨u, hu⟩ : ∃ r, val a ^ x.toNat % val n = r := ⟨_, rfl⟩
  have lu := hml (val a ^ x.toNat)
  rw [hu] at lu ⊢
  simp
  refine CallL_F (law03_one_ok y) (by simp) ?_
  simp [RU]
  refine CallL_V (modular_Pow_ok a (toL y.toNat) n (by omega) (by omega) (by omega)) (by simp) ?_
  rw [mE_p hz, mR_p hz, val_toL]
  obtain ⟨v, hv⟩ : ∃ r, val a ^ y.toNat % val n = r := ⟨_, rfl⟩
  have lv := hml (val a ^ y.toNat)
  rw [hv] at lv ⊢
  simp
  refine CallL_F (modular_Mul_ok (toL u) (toL v) n (by omega) (by omega) (by omega)) (by simp) ?_
  rw [mE_p hz, mR_p hz, val_toL, val_toL]
  obtain ⟨w, hw⟩ : ∃ s, u * v % val n = s := ⟨_, rfl⟩
  have lw := hml (u * v)
  rw [hw] at lw ⊢
  simp [RU]
  refine CallL_F (law03_one_ok x) (by simp) ?_
  simp [RU]
  refine CallL_F (law03_one_ok y) (by simp) ?_
  simp [RU]
  refine CallL_F (ref02_Add_ok (toL x.toNat) (toL y.toNat) (by omega) (by omega)) (by simp) ?_
  have lxy := toL_add_len (toL x.toNat) (toL y.toNat)
  rw [val_toL, val_toL] at lxy ⊢
  simp [RU]
  refine CallL_V (modular_Pow_ok a (toL (x.toNat + y.toNat)) n (by omega) (by omega) (by omega)) (by simp) ?_
  rw [mE_p hz, mR_p hz, val_toL]
  obtain ⟨z, hz'⟩ : ∃ r, val a ^ (x.toNat + y.toNat) % val n = r := ⟨_, rfl⟩
  have lz := hml (val a ^ (x.toNat + y.toNat))
  rw [hz'] at lz ⊢
  -- the plain law
  have ep : p = q := by rw [← hp', ← hq, ← hs, ← hab, ← hac]; simp [Nat.mul_add]
  have ed : d = r := by
    rw [← hd, ← hr]
    obtain ⟨k1, e1⟩ := subM_cast (a := s) (b := val c) hz
    obtain ⟨k2, e2⟩ := modc (val b + val c) (val n)
    obtain ⟨k3, e3⟩ := modc (val b) (val n)
    rw [hs] at e2
    refine eq_of_cast (subM_lt hz) (hm _) (k := k1 + k2 - k3) ?_
    rw [e1, e2, e3]
    push_cast
    grind
  have ew : w = z := by rw [← hw, ← hz', ← hu, ← hv, Nat.pow_add]; simp
  have hs2 : s < val n := by rw [← hs]; exact hm _
  have hp2 : p < val n := by rw [← hp']; exact hm _
  have hz2 : z < val n := by rw [← hz']; exact hm _
  subst ep ed ew
  simp
  refine CallL_F (kit_Same_ok (toL p) (toL p) (by omega)) (by simp) ?_
  simp
  refine CallL_F (kit_Same_ok (toL d) (toL d) (by omega)) (by simp) ?_
  simp
  refine CallL_F (kit_Same_ok (toL w) (toL w) (by omega)) (by simp) ?_
  simp
  refine CallL_F (ref02_Compare_ok (toL s) n (by omega) (by omega)) (by simp) ?_
  simp [val_toL, cmpN_lt, hs2]
  refine CallL_F (ref02_Compare_ok (toL p) n (by omega) (by omega)) (by simp) ?_
  simp [val_toL, cmpN_lt, hp2]
  refine CallL_F (ref02_Compare_ok (toL w) n (by omega) (by omega)) (by simp) ?_
  simp [val_toL, cmpN_lt, hz2]
  refine CallL_F (kit_Trimmed_ok w (by omega)) (by simp) ?_
  simp
end Go.Proofs.Ytlfffpmdofacjaa
