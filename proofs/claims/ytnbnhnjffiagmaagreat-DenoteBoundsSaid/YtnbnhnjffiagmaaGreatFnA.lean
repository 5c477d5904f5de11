/- Words, naturals: what the functions come to. -/
import Derived.Test.YtnbnhnjffiagmaaGreatSvG3
import Derived.Test.YtnbnhnjffiagmaaGreatProg
import Derived.KernelRfl
namespace Go.Proofs.YtnbnhnjffiagmaaGreat
open Go.Sv
set_option linter.unusedSimpArgs false
def c_ref02_Trim : LC := (.seq (.ops [ .z 2 (.move (.c .nilSl))]) (.seq (.ops [ .z 4 (.move (.t 0)), .z 5 (.lenSl (.t 4)), .z 3 (.move (.t 5))]) (.seq (.block 0 (.loop (.seq (.seq (.ops [ .z 6 (.move (.t 3)), .z 7 (.bin .gtr true 3 (.t 6) (.c (.i 0))), .z 8 (.move (.t 7)), ⟨some 9, (some (8, true)), .move (.t 0)⟩, ⟨some 10, (some (8, true)), .move (.t 3)⟩, ⟨some 11, (some (8, true)), .bin .sub true 3 (.t 10) (.c (.i 1))⟩, ⟨some 12, (some (8, true)), .ixAddr 1 (.t 9) (.t 11)⟩, ⟨some 13, (some (8, true)), .load1 (.t 12)⟩, ⟨some 14, (some (8, true)), .bin .eql true 28 (.t 13) (.c (.u 0))⟩, .z 15 (.pick (.t 8) (.t 14) (.c (.bool false)))]) (.cond (.t 15) .skip (.exit 0))) (.block 1 (.ops [ .z 16 (.move (.t 3)), .z 17 (.bin .sub true 3 (.t 16) (.c (.i 1))), .z 3 (.move (.t 17))]))))) (.seq (.ops [ .z 18 (.buildSl 1 0 [] []), .z 19 (.move (.t 0)), .z 20 (.move (.t 3)), .z 21 (.slSl 1 (.t 19) none (some (.t 20))), .z 22 (.appG 1 (.t 18) (.t 21)), .z 2 (.move (.t 22))]) .ret))))
theorem r_ref02_Trim : resFn Tryz.prog 34 = some ⟨23, c_ref02_Trim.r, [.tmp 2]⟩ := by kernel_rfl
theorem k_ref02_Trim : c_ref02_Trim.ok = true := by kernel_rfl
def c_nat_row_trim : LC := (.seq (.ops [ .z 2 (.move (.c .nilSl))]) (.seq (.block 0 (.loop (.seq (.seq (.ops [ .z 3 (.move (.t 0)), .z 4 (.lenSl (.t 3)), .z 5 (.bin .gtr true 3 (.t 4) (.c (.i 0))), .z 6 (.move (.t 5)), ⟨some 7, (some (6, true)), .move (.t 0)⟩, ⟨some 8, (some (6, true)), .move (.t 0)⟩, ⟨some 9, (some (6, true)), .lenSl (.t 8)⟩, ⟨some 10, (some (6, true)), .bin .sub true 3 (.t 9) (.c (.i 1))⟩, ⟨some 11, (some (6, true)), .ixAddr 1 (.t 7) (.t 10)⟩, ⟨some 12, (some (6, true)), .load1 (.t 11)⟩, ⟨some 13, (some (6, true)), .bin .eql true 28 (.t 12) (.c (.u 0))⟩, .z 14 (.pick (.t 6) (.t 13) (.c (.bool false)))]) (.cond (.t 14) .skip (.exit 0))) (.block 1 (.ops [ .z 15 (.move (.t 0)), .z 16 (.move (.t 0)), .z 17 (.lenSl (.t 16)), .z 18 (.bin .sub true 3 (.t 17) (.c (.i 1))), .z 19 (.slSl 1 (.t 15) none (some (.t 18))), .z 0 (.move (.t 19))]))))) (.seq (.ops [ .z 20 (.move (.t 0)), .z 2 (.move (.t 20))]) .ret)))
theorem r_nat_row_trim : resFn Tryz.prog 73 = some ⟨21, c_nat_row_trim.r, [.tmp 2]⟩ := by kernel_rfl
theorem k_nat_row_trim : c_nat_row_trim.ok = true := by kernel_rfl
def c_nat_Trim : LC := (.seq (.ops [ .z 2 (.move (.c .nilSl))]) (.seq (.ops [ .z 3 (.buildSl 1 0 [] []), .z 4 (.move (.t 0)), .z 5 (.callV (.c (.fn (.func 73) [] [])) [.t 4]), .z 6 (.appG 1 (.t 3) (.t 5)), .z 2 (.move (.t 6))]) .ret))
theorem r_nat_Trim : resFn Tryz.prog 42 = some ⟨7, c_nat_Trim.r, [.tmp 2]⟩ := by kernel_rfl
theorem k_nat_Trim : c_nat_Trim.ok = true := by kernel_rfl
def c_word_Add : LC := (.seq (.ops [ .z 6 (.move (.c (.u 0))), .z 7 (.move (.c (.bool false)))]) (.seq (.ops [ .z 8 (.move (.t 0)), .z 9 (.move (.t 1)), .z 10 (.bin .add false 28 (.t 8) (.t 9)), .z 6 (.move (.t 10))]) (.seq (.ops [ .z 11 (.move (.t 6)), .z 12 (.move (.t 0)), .z 13 (.bin .lss false 28 (.t 11) (.t 12)), .z 7 (.move (.t 13))]) (.seq (.seq (.ops [ .z 14 (.move (.t 2))]) (.cond (.t 14) (.seq (.ops [ .z 15 (.move (.t 6)), .z 16 (.bin .add true 28 (.t 15) (.c (.u 1))), .z 6 (.move (.t 16))]) (.ops [ .z 17 (.move (.t 7)), .z 18 (.move (.t 17)), ⟨some 19, (some (18, false)), .move (.t 6)⟩, ⟨some 20, (some (18, false)), .bin .eql true 28 (.t 19) (.c (.u 0))⟩, .z 21 (.pick (.t 18) (.c (.bool true)) (.t 20)), .z 7 (.move (.t 21))])) .skip)) (.seq (.ops [ .z 22 (.move (.t 6)), .z 23 (.move (.t 7)), .z 6 (.move (.t 22)), .z 7 (.move (.t 23))]) .ret)))))
theorem r_word_Add : resFn Tryz.prog 141 = some ⟨24, c_word_Add.r, [.tmp 6, .tmp 7]⟩ := by kernel_rfl
theorem k_word_Add : c_word_Add.ok = true := by kernel_rfl
theorem ref02_Trim_ok (a : List UInt64) (ha : a.length ≤ 1048576) : FnS Tryz.prog 34 [LU a] (.dy 0 0) [RU (toL (val a))] := by
 refine FnS.row (call_body r_ref02_Trim k_ref02_Trim (by simp) ?_)
 simp [c_ref02_Trim]
 refine loop_wp (fun ρ D G N => D = [] ∧ G = [] ∧ N ≤ a.length ∧ lk ρ 0 = LU a ∧ lk ρ 3 = .i N ∧ val (a.take N) = val a) (N := a.length) (by simp) ?_
 rintro N ρ D G ⟨rfl, rfl, hN, h0, h3, ht⟩
 simp at h0
 have fin : (N = 0 ∨ a.getD (N - 1) 0 ≠ 0) → toL (val a) = a.take N := by
  intro h
  rw [← ht]
  refine toL_val ?_
  rcases h with rfl | h
  ·exact .inl (by simp)
  ·by_cases hz : N = 0
   ·subst hz; exact .inl (by simp)
   ·have : N = (N - 1) + 1 := by omega
    rw [this, take_succ_getD (by omega)]
    exact Trm_snoc h
 by_cases hz : N = 0
 ·subst hz
  have hf := fin (.inl rfl)
  simp at h3 hf
  simp [h0, h3, hf, RowAt]
  exact ⟨0, 1, ⟨rfl, rfl⟩, by simp⟩
 ·obtain ⟨n, rfl⟩ : ∃ n, N = n + 1 := ⟨N - 1, by omega⟩
  have hlt : n < a.length := by omega
  have h5 : ((n : Int) + 1 - 1).toNat = n := by omega
  simp [h0, h3, hlt, h5]
  refine ⟨by omega, fun hz0 => ⟨by omega, n, by omega, by omega, rfl, ?_⟩, fun hz0 => ⟨by omega, by omega, by omega, ?_⟩⟩
  ·rw [← ht, val_take_succ hlt]
   simp [hlt, hz0]
  ·have hf := fin (.inr (by simpa [hlt] using hz0))
   refine .inr ⟨0, 1, 1, rfl, ?_⟩
   rw [hf]
   simp [List.map_take]
   omega
theorem nat_row_trim_ok (a : List UInt64) {G : LHeap} {K : LV → LHeap → Prop} (h : K (LU (toL (val a))) G) (ha : a.length ≤ 1048576) : CallL Tryz.prog (.fn 73) [LU a] G K := by
 refine call_body r_nat_row_trim k_nat_row_trim (by simp) ?_
 simp [c_nat_row_trim]
 refine loop_wp (fun ρ D G' N => D = [] ∧ G' = G ∧ N ≤ a.length ∧ lk ρ 0 = LU (a.take N) ∧ val (a.take N) = val a) (N := a.length) (by simp) ?_
 rintro N ρ D G' ⟨rfl, rfl, hN, h0, ht⟩
 have hlen : (a.take N).length = N := by simp; omega
 simp [hlen, - List.map_take, - List.length_take] at h0
 have fin : (N = 0 ∨ a.getD (N - 1) 0 ≠ 0) → toL (val a) = a.take N := by
  intro h
  rw [← ht]
  refine toL_val ?_
  rcases h with rfl | h
  ·exact .inl (by simp)
  ·by_cases hz : N = 0
   ·subst hz; exact .inl (by simp)
   ·have : N = (N - 1) + 1 := by omega
    rw [this, take_succ_getD (by omega)]
    exact Trm_snoc h
 by_cases hz : N = 0
 ·subst hz
  have hf := fin (.inl rfl)
  simp at h0 hf
  simp [hf] at h
  simp [h0, h]
 ·obtain ⟨n, rfl⟩ : ∃ n, N = n + 1 := ⟨N - 1, by omega⟩
  have hlt : n < a.length := by omega
  have h5 : ((n : Int) + 1 - 1).toNat = n := by omega
  simp [h0, hlt, h5]
  refine ⟨by omega, by omega, fun hz0 => ⟨by omega, n, by omega, by omega, ⟨by rw [List.take_take]; congr 1; omega, by omega⟩, ?_⟩, fun hz0 => ?_⟩
  ·rw [← ht, val_take_succ hlt]
   simp [hlt, hz0]
  ·have hf := fin (.inr (by simpa [hlt] using hz0))
   rw [hf] at h
   simpa [hlen, hN] using h
theorem nat_Trim_ok (a : List UInt64) (ha : a.length ≤ 1048576) : FnS Tryz.prog 42 [LU a] (.dy 0 0) [RU (toL (val a))] := by
 have hl := toL_length_val a
 refine FnS.row (call_body r_nat_Trim k_nat_Trim (by simp) ?_)
 simp [c_nat_Trim]
 refine nat_row_trim_ok a ?_ ha
 simp
 exact ⟨by omega, .inr ⟨0, 1, 1, rfl, by simp⟩⟩
theorem addC_true (a b : UInt64) : (a ≤ a + b → decide (a + b + 1 = 0) = (addC a b true).2) ∧ (a + b < a → true = (addC a b true).2) := by
 unfold addC
 refine ⟨fun h => ?_, fun h => ?_⟩
 ·have h' : ¬ a + b < a := UInt64.not_lt.2 h
  simp [h']
 ·simp [h]
theorem word_Add_ok (a b : UInt64) (c : Bool) : FnS Tryz.prog 141 [.u a, .u b, .bool c] (.tup [.u (addC a b c).1, .bool (addC a b c).2]) [] := by
 refine FnS.val rfl (call_body r_word_Add k_word_Add (by simp) ?_)
 cases c
 ·simp [c_word_Add]
  simp [addC, addU_eq]
 ·simp [c_word_Add]
  simp only [addU_eq]
  exact ⟨fun h => ⟨rfl, ((addC_true a b).2 h).symm⟩, fun h => ⟨rfl, (addC_true a b).1 h⟩⟩
end Go.Proofs.YtnbnhnjffiagmaaGreat
