/- Chapter 3: what the statements share. -/
import Derived.Test.YtlfffpmdofacjaaFnQ
namespace Go.Proofs.Ytlfffpmdofacjaa
open Go.Sv
set_option linter.unusedSimpArgs false

def c_law03_one : LC :=
 (.seq (.ops [
   ⟨(some 2), none, .move (.c .nilSl)⟩])
 (.seq (.ops [
    ⟨(some 3), none, .move (.t 0)⟩,
    ⟨(some 4), none, .buildSl 1 1 [(.u 0)] [(0, 1, (.t 3))]⟩,
    ⟨(some 5), none, .callV (.c (.fn (.func 18) [] [])) [(.t 4)]⟩,
    ⟨(some 2), none, .move (.t 5)⟩])
  .ret))
theorem r_law03_one : resFn Try.prog 25 = some ⟨6, c_law03_one.r, [.tmp 2]⟩ := by kernel_rfl
theorem k_law03_one : c_law03_one.ok = true := by kernel_rfl

def c_law03_light : LC :=
 (.seq (.ops [
   ⟨(some 6), none, .move (.c (.bool false))⟩])
 (.seq (.ops [
    ⟨(some 7), none, .move (.t 0)⟩,
    ⟨(some 8), none, .lenSl (.t 7)⟩,
    ⟨(some 9), none, .bin .leq true 3 (.t 8) (.c (.i 5))⟩,
    ⟨(some 10), none, .move (.t 9)⟩,
    ⟨(some 11), (some (10, true)), .move (.t 1)⟩,
    ⟨(some 12), (some (10, true)), .lenSl (.t 11)⟩,
    ⟨(some 13), (some (10, true)), .bin .leq true 3 (.t 12) (.c (.i 5))⟩,
    ⟨(some 14), none, .pick (.t 10) (.t 13) (.c (.bool false))⟩,
    ⟨(some 15), none, .move (.t 14)⟩,
    ⟨(some 16), (some (15, true)), .move (.t 2)⟩,
    ⟨(some 17), (some (15, true)), .lenSl (.t 16)⟩,
    ⟨(some 18), (some (15, true)), .bin .leq true 3 (.t 17) (.c (.i 5))⟩,
    ⟨(some 19), none, .pick (.t 15) (.t 18) (.c (.bool false))⟩,
    ⟨(some 6), none, .move (.t 19)⟩])
  .ret))
theorem r_law03_light : resFn Try.prog 23 = some ⟨20, c_law03_light.r, [.tmp 6]⟩ := by kernel_rfl
theorem k_law03_light : c_law03_light.ok = true := by kernel_rfl

def c_law03_lives : LC :=
 (.seq (.ops [
   ⟨(some 0), none, .move (.c (.bool false))⟩])
 (.seq (.ops [
    ⟨(some 8), none, .callV (.c (.fn (.func 25) [] [])) [(.c (.u 3))]⟩,
    ⟨(some 9), none, .callV (.c (.fn (.func 25) [] [])) [(.c (.u 4))]⟩,
    ⟨(some 10), none, .callV (.c (.fn (.func 25) [] [])) [(.c (.u 10))]⟩,
    ⟨(some 11), none, .callV (.c (.fn (.func 24) [] [])) [(.t 8), (.t 9), (.t 10)]⟩,
    ⟨(some 7), none, .move (.t 11)⟩,
    ⟨(some 12), none, .extract 0 (.t 7)⟩,
    ⟨(some 13), none, .extract 1 (.t 7)⟩,
    ⟨(some 1), none, .move (.t 12)⟩,
    ⟨(some 2), none, .move (.t 13)⟩])
  (.seq (.ops [
     ⟨(some 15), none, .callV (.c (.fn (.func 25) [] [])) [(.c (.u 3))]⟩,
     ⟨(some 16), none, .callV (.c (.fn (.func 25) [] [])) [(.c (.u 10))]⟩,
     ⟨(some 17), none, .callV (.c (.fn (.func 35) [] [])) [(.t 15), (.t 16)]⟩,
     ⟨(some 14), none, .move (.t 17)⟩,
     ⟨(some 18), none, .extract 0 (.t 14)⟩,
     ⟨(some 19), none, .extract 1 (.t 14)⟩,
     ⟨(some 3), none, .move (.t 18)⟩,
     ⟨(some 4), none, .move (.t 19)⟩])
   (.seq (.ops [
      ⟨(some 21), none, .callV (.c (.fn (.func 25) [] [])) [(.c (.u 1))]⟩,
      ⟨(some 22), none, .callV (.c (.fn (.func 38) [] [])) [(.t 21)]⟩,
      ⟨(some 20), none, .move (.t 22)⟩,
      ⟨(some 23), none, .extract 0 (.t 20)⟩,
      ⟨(some 24), none, .extract 1 (.t 20)⟩,
      ⟨(some 5), none, .move (.t 23)⟩,
      ⟨(some 6), none, .move (.t 24)⟩])
    (.seq (.ops [
       ⟨(some 25), none, .move (.t 2)⟩,
       ⟨(some 26), none, .bin .eql true 25 (.t 25) (.c (.i 0))⟩,
       ⟨(some 27), none, .move (.t 26)⟩,
       ⟨(some 28), (some (27, true)), .move (.t 1)⟩,
       ⟨(some 29), (some (27, true)), .callV (.c (.fn (.func 25) [] [])) [(.c (.u 1))]⟩,
       ⟨(some 30), (some (27, true)), .callV (.c (.fn (.func 19) [] [])) [(.t 28), (.t 29)]⟩,
       ⟨(some 31), none, .pick (.t 27) (.t 30) (.c (.bool false))⟩,
       ⟨(some 32), none, .move (.t 31)⟩,
       ⟨(some 33), (some (32, true)), .move (.t 4)⟩,
       ⟨(some 34), (some (32, true)), .bin .eql true 25 (.t 33) (.c (.i 0))⟩,
       ⟨(some 35), none, .pick (.t 32) (.t 34) (.c (.bool false))⟩,
       ⟨(some 36), none, .move (.t 35)⟩,
       ⟨(some 37), (some (36, true)), .move (.t 3)⟩,
       ⟨(some 38), (some (36, true)), .callV (.c (.fn (.func 25) [] [])) [(.c (.u 7))]⟩,
       ⟨(some 39), (some (36, true)), .callV (.c (.fn (.func 19) [] [])) [(.t 37), (.t 38)]⟩,
       ⟨(some 40), none, .pick (.t 36) (.t 39) (.c (.bool false))⟩,
       ⟨(some 41), none, .move (.t 40)⟩,
       ⟨(some 42), (some (41, true)), .move (.t 6)⟩,
       ⟨(some 43), (some (41, true)), .bin .eql true 25 (.t 42) (.c (.i 0))⟩,
       ⟨(some 44), none, .pick (.t 41) (.t 43) (.c (.bool false))⟩,
       ⟨(some 45), none, .move (.t 44)⟩,
       ⟨(some 46), (some (45, true)), .move (.t 5)⟩,
       ⟨(some 47), (some (45, true)), .bin .eql true 29 (.t 46) (.c (.u 18446744073709551615))⟩,
       ⟨(some 48), none, .pick (.t 45) (.t 47) (.c (.bool false))⟩,
       ⟨(some 0), none, .move (.t 48)⟩])
     .ret)))))
theorem r_law03_lives : resFn Try.prog 22 = some ⟨49, c_law03_lives.r, [.tmp 0]⟩ := by kernel_rfl
theorem k_law03_lives : c_law03_lives.ok = true := by kernel_rfl

def c_kit_Pick : LC :=
 (.seq (.ops [
   ⟨(some 4), none, .move (.c (.i 0))⟩])
 (.seq (.seq (.ops [
     ⟨(some 6), none, .move (.t 1)⟩,
     ⟨(some 7), none, .bin .lss true 3 (.t 6) (.c (.i 1))⟩])
   (.cond (.t 7)
    (.seq (.ops [
       ⟨(some 4), none, .move (.c (.i 0))⟩])
     .ret)
    .skip))
  (.seq (.ops [
     ⟨(some 8), none, .move (.t 0)⟩,
     ⟨(some 9), none, .move (.t 1)⟩,
     ⟨(some 10), none, .bin .rem false 3 (.t 8) (.t 9)⟩,
     ⟨(some 5), none, .move (.t 10)⟩])
   (.seq (.seq (.ops [
       ⟨(some 11), none, .move (.t 5)⟩,
       ⟨(some 12), none, .bin .lss true 3 (.t 11) (.c (.i 0))⟩])
     (.cond (.t 12)
      (.ops [
        ⟨(some 13), none, .move (.t 5)⟩,
        ⟨(some 14), none, .move (.t 1)⟩,
        ⟨(some 15), none, .bin .add false 3 (.t 13) (.t 14)⟩,
        ⟨(some 5), none, .move (.t 15)⟩])
      .skip))
    (.seq (.ops [
       ⟨(some 16), none, .move (.t 5)⟩,
       ⟨(some 4), none, .move (.t 16)⟩])
     .ret)))))
theorem r_kit_Pick : resFn Try.prog 28 = some ⟨17, c_kit_Pick.r, [.tmp 4]⟩ := by kernel_rfl
theorem k_kit_Pick : c_kit_Pick.ok = true := by kernel_rfl

def c_kit_Trimmed : LC :=
 (.seq (.ops [
   ⟨(some 2), none, .move (.c (.bool false))⟩])
 (.seq (.ops [
    ⟨(some 3), none, .move (.t 0)⟩,
    ⟨(some 4), none, .lenSl (.t 3)⟩,
    ⟨(some 5), none, .bin .eql true 3 (.t 4) (.c (.i 0))⟩,
    ⟨(some 6), none, .move (.t 5)⟩,
    ⟨(some 7), (some (6, false)), .move (.t 0)⟩,
    ⟨(some 8), (some (6, false)), .move (.t 0)⟩,
    ⟨(some 9), (some (6, false)), .lenSl (.t 8)⟩,
    ⟨(some 10), (some (6, false)), .bin .sub true 3 (.t 9) (.c (.i 1))⟩,
    ⟨(some 11), (some (6, false)), .ixAddr 1 (.t 7) (.t 10)⟩,
    ⟨(some 12), (some (6, false)), .load1 (.t 11)⟩,
    ⟨(some 13), (some (6, false)), .bin .neq true 29 (.t 12) (.c (.u 0))⟩,
    ⟨(some 14), none, .pick (.t 6) (.c (.bool true)) (.t 13)⟩,
    ⟨(some 2), none, .move (.t 14)⟩])
  .ret))
theorem r_kit_Trimmed : resFn Try.prog 33 = some ⟨15, c_kit_Trimmed.r, [.tmp 2]⟩ := by kernel_rfl
theorem k_kit_Trimmed : c_kit_Trimmed.ok = true := by kernel_rfl



theorem one_len (x : UInt64) : (toL x.toNat).length ≤ 1 := by
  have := toL_length_val [x]
  rw [val_one] at this
  simpa using this
theorem law03_one_ok (x : UInt64) : FnS Try.prog 25 [.u x] (.dy 0 0) [RU (toL x.toNat)] := by
  refine FnS.row (call_body r_law03_one k_law03_one (by simp) ?_)
  simp [c_law03_one]
  refine CallL_row (ref02_Trim_ok [x] (by simp)) (bors1 (RowAt.bor (l := [x]) (.inr ⟨_, 0, 0, rfl, by simp⟩))) ?_
  rw [val_one]
  simp
  exact .inr ⟨1, 0, 0, rfl, by simp [RU]⟩
theorem law03_light_ok (a b n : List UInt64) : FnS Try.prog 23 [LU a, LU b, LU n] (.bool (decide (a.length ≤ 5 ∧ b.length ≤ 5 ∧ n.length ≤ 5))) [] := by
  refine FnS.val rfl (call_body r_law03_light k_law03_light (by simp) ?_)
  by_cases h1 : a.length ≤ 5 <;> by_cases h2 : b.length ≤ 5 <;> by_cases h3 : n.length ≤ 5 <;> (
    have g1 : ((a.length : Int) ≤ 5) = (a.length ≤ 5) := by simp; omega
    have g2 : ((b.length : Int) ≤ 5) = (b.length ≤ 5) := by simp; omega
    have g3 : ((n.length : Int) ≤ 5) = (n.length ≤ 5) := by simp; omega
    simp [c_law03_light, g1, g2, g3, h1, h2, h3])
theorem kit_Trimmed_ok (x : Nat) (hx : (toL x).length ≤ 1000000) : FnS Try.prog 33 [LU (toL x)] (.bool true) [] := by
  refine FnS.val rfl (call_body r_kit_Trimmed k_kit_Trimmed (by simp) ?_)
  have ht := Trm_toL x
  generalize toL x = l at *
  cases hl : l.length with
  | zero => simp [c_kit_Trimmed, hl]
  | succ k =>
    have hne : l ≠ [] := fun e => by rw [e] at hl; simp at hl
    have h1 : ¬ ((k : Int) + 1 = 0) := by omega
    have h2 : ((k : Int) + 1 - 1).toNat = k := by omega
    have h3 : l[k]'(by omega) ≠ 0 := by
      rcases ht with h | h
      · exact absurd h hne
      · rw [List.getLast?_eq_getElem?, hl] at h
        simpa [hl] using h
    simp [c_kit_Trimmed, hl, hne, h1, h2, h3]
    omega
theorem kit_Pick_ok (n m : Int) (hm : 1 ≤ m ∧ m < 1000000) : ∃ k : Nat, (k : Int) < m ∧ FnS Try.prog 28 [.i n, .i m] (.i k) [] := by
  have h1 : ¬ m < 1 := by omega
  have h0 : m ≠ 0 := by omega
  have hlo : n.tmod m < m := Int.tmod_lt_of_pos n (by omega)
  have hhi : -m < n.tmod m := by
    have h := Int.tmod_lt_of_pos (-n) (show 0 < m by omega)
    rw [Int.neg_tmod] at h
    omega
  by_cases hneg : n.tmod m < 0
  · obtain ⟨k, hk⟩ := Int.eq_ofNat_of_zero_le (show 0 ≤ n.tmod m + m by omega)
    refine ⟨k, by omega, FnS.val rfl (call_body r_kit_Pick k_kit_Pick (by simp) ?_)⟩
    simp [c_kit_Pick, h1, h0, hneg]
    omega
  · obtain ⟨k, hk⟩ := Int.eq_ofNat_of_zero_le (show 0 ≤ n.tmod m by omega)
    refine ⟨k, by omega, FnS.val rfl (call_body r_kit_Pick k_kit_Pick (by simp) ?_)⟩
    simp [c_kit_Pick, h1, h0, hneg, hk]
    omega

theorem pow_lives : (3 : Nat) ^ 4 % 10 = 1 := by decide
theorem toL_small {x : Nat} (h : x ≠ 0) (h2 : x < 18446744073709551616) : toL x = [UInt64.ofNat x] := by
  rw [toL_pos h, Nat.div_eq_of_lt h2, toL_zero]
theorem inv64_one : inv64 1 = 1 := inv64_eq (by decide)
theorem law03_lives_ok : FnS Try.prog 22 [] (.bool true) [] := by
  refine FnS.val rfl (call_body r_law03_lives k_law03_lives (by simp) ?_)
  have t1 : toL 1 = [1] := toL_small (by decide) (by decide)
  have t3 : toL 3 = [3] := toL_small (by decide) (by decide)
  have t4 : toL 4 = [4] := toL_small (by decide) (by decide)
  have t7 : toL 7 = [7] := toL_small (by decide) (by decide)
  have t10 : toL 10 = [10] := toL_small (by decide) (by decide)
  simp [c_law03_lives]
  refine CallL_F (law03_one_ok 3) (by simp) ?_
  simp [RU]
  refine CallL_F (law03_one_ok 4) (by simp) ?_
  simp [RU]
  refine CallL_F (law03_one_ok 10) (by simp) ?_
  simp [RU, t1, t3, t4, t7, t10]
  refine CallL_V (modular_Pow_ok [3] [4] [10] (by simp) (by simp) (by simp)) (by simp) ?_
  have v3 : val [3] = 3 := val_one _
  have v4 : val [4] = 4 := val_one _
  have v10 : val [10] = 10 := val_one _
  rw [v3, v4, v10, pow_lives]
  simp [mR, mE, t1]
  refine CallL_F (law03_one_ok 3) (by simp) ?_
  simp [RU]
  refine CallL_F (law03_one_ok 10) (by simp) ?_
  simp [RU, t1, t3, t4, t7, t10]
  refine CallL_V (modular_Inverse_ok [3] [10] (by simp) (by simp)) (by simp) ?_
  have hi : invN 3 10 = 7 := invN_eq (by decide) (by decide)
  have hg : Nat.gcd 3 10 = 1 := by decide
  rw [v3, v10]
  simp [ivR, ivE, hi, hg, t7]
  refine CallL_F (law03_one_ok 1) (by simp) ?_
  simp [RU, t1]
  refine CallL_F (modular_Const_ok [1]) (by simp) ?_
  have ho : oddL [1] = true := by decide
  simp [conR, conE, ho, inv64_one]
  refine CallL_F (law03_one_ok 1) (by simp) ?_
  simp [RU, t1]
  refine CallL_F (kit_Same_ok [1] [1] (by simp)) (by simp) ?_
  simp
  refine CallL_F (law03_one_ok 7) (by simp) ?_
  simp [RU, t7]
  refine CallL_F (kit_Same_ok [7] [7] (by simp)) (by simp) ?_
  simp
  decide
end Go.Proofs.Ytlfffpmdofacjaa
