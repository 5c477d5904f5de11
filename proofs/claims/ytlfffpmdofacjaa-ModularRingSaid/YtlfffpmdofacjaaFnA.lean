/- Words, naturals: what the functions come to. -/
import Derived.Test.YtlfffpmdofacjaaSvG3
import Derived.Test.YtlfffpmdofacjaaProg
import Derived.KernelRfl
namespace Go.Proofs.Ytlfffpmdofacjaa
open Go.Sv
set_option linter.unusedSimpArgs false

def c_ref02_limb : LC :=
 (.seq (.ops [
   ⟨(some 4), none, .move (.c (.u 0))⟩])
 (.seq (.seq (.ops [
     ⟨(some 5), none, .move (.t 1)⟩,
     ⟨(some 6), none, .bin .geq true 3 (.t 5) (.c (.i 0))⟩,
     ⟨(some 7), none, .move (.t 6)⟩,
     ⟨(some 8), (some (7, true)), .move (.t 1)⟩,
     ⟨(some 9), (some (7, true)), .move (.t 0)⟩,
     ⟨(some 10), (some (7, true)), .lenSl (.t 9)⟩,
     ⟨(some 11), (some (7, true)), .bin .lss false 3 (.t 8) (.t 10)⟩,
     ⟨(some 12), none, .pick (.t 7) (.t 11) (.c (.bool false))⟩])
   (.cond (.t 12)
    (.seq (.ops [
       ⟨(some 13), none, .move (.t 0)⟩,
       ⟨(some 14), none, .move (.t 1)⟩,
       ⟨(some 15), none, .ixAddr 1 (.t 13) (.t 14)⟩,
       ⟨(some 16), none, .load1 (.t 15)⟩,
       ⟨(some 4), none, .move (.t 16)⟩])
     .ret)
    .skip))
  (.seq (.ops [
     ⟨(some 4), none, .move (.c (.u 0))⟩])
   .ret)))
theorem r_ref02_limb : resFn Try.prog 54 = some ⟨17, c_ref02_limb.r, [.tmp 4]⟩ := by kernel_rfl
theorem k_ref02_limb : c_ref02_limb.ok = true := by kernel_rfl

def c_ref02_Trim : LC :=
 (.seq (.ops [
   ⟨(some 2), none, .move (.c .nilSl)⟩])
 (.seq (.ops [
    ⟨(some 4), none, .move (.t 0)⟩,
    ⟨(some 5), none, .lenSl (.t 4)⟩,
    ⟨(some 3), none, .move (.t 5)⟩])
  (.seq (.block 0 (.loop (.seq (.seq (.ops [
         ⟨(some 6), none, .move (.t 3)⟩,
         ⟨(some 7), none, .bin .gtr true 3 (.t 6) (.c (.i 0))⟩,
         ⟨(some 8), none, .move (.t 7)⟩,
         ⟨(some 9), (some (8, true)), .move (.t 0)⟩,
         ⟨(some 10), (some (8, true)), .move (.t 3)⟩,
         ⟨(some 11), (some (8, true)), .bin .sub true 3 (.t 10) (.c (.i 1))⟩,
         ⟨(some 12), (some (8, true)), .ixAddr 1 (.t 9) (.t 11)⟩,
         ⟨(some 13), (some (8, true)), .load1 (.t 12)⟩,
         ⟨(some 14), (some (8, true)), .bin .eql true 29 (.t 13) (.c (.u 0))⟩,
         ⟨(some 15), none, .pick (.t 8) (.t 14) (.c (.bool false))⟩])
       (.cond (.t 15)
        .skip
        (.exit 0)))
      (.block 1 (.ops [
         ⟨(some 16), none, .move (.t 3)⟩,
         ⟨(some 17), none, .bin .sub true 3 (.t 16) (.c (.i 1))⟩,
         ⟨(some 3), none, .move (.t 17)⟩])))))
   (.seq (.ops [
      ⟨(some 18), none, .buildSl 1 0 [] []⟩,
      ⟨(some 19), none, .move (.t 0)⟩,
      ⟨(some 20), none, .move (.t 3)⟩,
      ⟨(some 21), none, .slSl 1 (.t 19) none (some (.t 20))⟩,
      ⟨(some 22), none, .appG 1 (.t 18) (.t 21)⟩,
      ⟨(some 2), none, .move (.t 22)⟩])
    .ret))))
theorem r_ref02_Trim : resFn Try.prog 18 = some ⟨23, c_ref02_Trim.r, [.tmp 2]⟩ := by kernel_rfl
theorem k_ref02_Trim : c_ref02_Trim.ok = true := by kernel_rfl

def c_nat_row_trim : LC :=
 (.seq (.ops [
   ⟨(some 2), none, .move (.c .nilSl)⟩])
 (.seq (.block 0 (.loop (.seq (.seq (.ops [
        ⟨(some 3), none, .move (.t 0)⟩,
        ⟨(some 4), none, .lenSl (.t 3)⟩,
        ⟨(some 5), none, .bin .gtr true 3 (.t 4) (.c (.i 0))⟩,
        ⟨(some 6), none, .move (.t 5)⟩,
        ⟨(some 7), (some (6, true)), .move (.t 0)⟩,
        ⟨(some 8), (some (6, true)), .move (.t 0)⟩,
        ⟨(some 9), (some (6, true)), .lenSl (.t 8)⟩,
        ⟨(some 10), (some (6, true)), .bin .sub true 3 (.t 9) (.c (.i 1))⟩,
        ⟨(some 11), (some (6, true)), .ixAddr 1 (.t 7) (.t 10)⟩,
        ⟨(some 12), (some (6, true)), .load1 (.t 11)⟩,
        ⟨(some 13), (some (6, true)), .bin .eql true 29 (.t 12) (.c (.u 0))⟩,
        ⟨(some 14), none, .pick (.t 6) (.t 13) (.c (.bool false))⟩])
      (.cond (.t 14)
       .skip
       (.exit 0)))
     (.block 1 (.ops [
        ⟨(some 15), none, .move (.t 0)⟩,
        ⟨(some 16), none, .move (.t 0)⟩,
        ⟨(some 17), none, .lenSl (.t 16)⟩,
        ⟨(some 18), none, .bin .sub true 3 (.t 17) (.c (.i 1))⟩,
        ⟨(some 19), none, .slSl 1 (.t 15) none (some (.t 18))⟩,
        ⟨(some 0), none, .move (.t 19)⟩])))))
  (.seq (.ops [
     ⟨(some 20), none, .move (.t 0)⟩,
     ⟨(some 2), none, .move (.t 20)⟩])
   .ret)))
theorem r_nat_row_trim : resFn Try.prog 77 = some ⟨21, c_nat_row_trim.r, [.tmp 2]⟩ := by kernel_rfl
theorem k_nat_row_trim : c_nat_row_trim.ok = true := by kernel_rfl

def c_nat_Trim : LC :=
 (.seq (.ops [
   ⟨(some 2), none, .move (.c .nilSl)⟩])
 (.seq (.ops [
    ⟨(some 3), none, .buildSl 1 0 [] []⟩,
    ⟨(some 4), none, .move (.t 0)⟩,
    ⟨(some 5), none, .callV (.c (.fn (.func 77) [] [])) [(.t 4)]⟩,
    ⟨(some 6), none, .appG 1 (.t 3) (.t 5)⟩,
    ⟨(some 2), none, .move (.t 6)⟩])
  .ret))
theorem r_nat_Trim : resFn Try.prog 52 = some ⟨7, c_nat_Trim.r, [.tmp 2]⟩ := by kernel_rfl
theorem k_nat_Trim : c_nat_Trim.ok = true := by kernel_rfl

def c_ref01_Add : LC :=
 (.seq (.ops [
   ⟨(some 6), none, .move (.c (.u 0))⟩,
   ⟨(some 7), none, .move (.c (.bool false))⟩])
 (.seq (.ops [
    ⟨(some 10), none, .move (.t 0)⟩,
    ⟨(some 11), none, .move (.t 1)⟩,
    ⟨(some 12), none, .bin .add false 29 (.t 10) (.t 11)⟩,
    ⟨(some 8), none, .move (.t 12)⟩])
  (.seq (.ops [
     ⟨(some 13), none, .move (.t 8)⟩,
     ⟨(some 14), none, .move (.t 0)⟩,
     ⟨(some 15), none, .bin .lss false 29 (.t 13) (.t 14)⟩,
     ⟨(some 9), none, .move (.t 15)⟩])
   (.seq (.seq (.ops [
       ⟨(some 16), none, .move (.t 2)⟩])
     (.cond (.t 16)
      (.seq (.ops [
         ⟨(some 17), none, .move (.t 8)⟩,
         ⟨(some 18), none, .bin .add true 29 (.t 17) (.c (.u 1))⟩,
         ⟨(some 8), none, .move (.t 18)⟩])
       (.ops [
         ⟨(some 19), none, .move (.t 9)⟩,
         ⟨(some 20), none, .move (.t 19)⟩,
         ⟨(some 21), (some (20, false)), .move (.t 8)⟩,
         ⟨(some 22), (some (20, false)), .bin .eql true 29 (.t 21) (.c (.u 0))⟩,
         ⟨(some 23), none, .pick (.t 20) (.c (.bool true)) (.t 22)⟩,
         ⟨(some 9), none, .move (.t 23)⟩]))
      .skip))
    (.seq (.ops [
       ⟨(some 24), none, .move (.t 8)⟩,
       ⟨(some 25), none, .move (.t 9)⟩,
       ⟨(some 6), none, .move (.t 24)⟩,
       ⟨(some 7), none, .move (.t 25)⟩])
     .ret)))))
theorem r_ref01_Add : resFn Try.prog 53 = some ⟨26, c_ref01_Add.r, [.tmp 6, .tmp 7]⟩ := by kernel_rfl
theorem k_ref01_Add : c_ref01_Add.ok = true := by kernel_rfl

def c_word_Add : LC :=
 (.seq (.ops [
   ⟨(some 6), none, .move (.c (.u 0))⟩,
   ⟨(some 7), none, .move (.c (.bool false))⟩])
 (.seq (.ops [
    ⟨(some 8), none, .move (.t 0)⟩,
    ⟨(some 9), none, .move (.t 1)⟩,
    ⟨(some 10), none, .bin .add false 29 (.t 8) (.t 9)⟩,
    ⟨(some 6), none, .move (.t 10)⟩])
  (.seq (.ops [
     ⟨(some 11), none, .move (.t 6)⟩,
     ⟨(some 12), none, .move (.t 0)⟩,
     ⟨(some 13), none, .bin .lss false 29 (.t 11) (.t 12)⟩,
     ⟨(some 7), none, .move (.t 13)⟩])
   (.seq (.seq (.ops [
       ⟨(some 14), none, .move (.t 2)⟩])
     (.cond (.t 14)
      (.seq (.ops [
         ⟨(some 15), none, .move (.t 6)⟩,
         ⟨(some 16), none, .bin .add true 29 (.t 15) (.c (.u 1))⟩,
         ⟨(some 6), none, .move (.t 16)⟩])
       (.ops [
         ⟨(some 17), none, .move (.t 7)⟩,
         ⟨(some 18), none, .move (.t 17)⟩,
         ⟨(some 19), (some (18, false)), .move (.t 6)⟩,
         ⟨(some 20), (some (18, false)), .bin .eql true 29 (.t 19) (.c (.u 0))⟩,
         ⟨(some 21), none, .pick (.t 18) (.c (.bool true)) (.t 20)⟩,
         ⟨(some 7), none, .move (.t 21)⟩]))
      .skip))
    (.seq (.ops [
       ⟨(some 22), none, .move (.t 6)⟩,
       ⟨(some 23), none, .move (.t 7)⟩,
       ⟨(some 6), none, .move (.t 22)⟩,
       ⟨(some 7), none, .move (.t 23)⟩])
     .ret)))))
theorem r_word_Add : resFn Try.prog 80 = some ⟨24, c_word_Add.r, [.tmp 6, .tmp 7]⟩ := by kernel_rfl
theorem k_word_Add : c_word_Add.ok = true := by kernel_rfl

def c_kit_Own_uint64 : LC :=
 (.seq (.ops [
   ⟨(some 2), none, .move (.c .nilSl)⟩])
 (.seq (.ops [
    ⟨(some 3), none, .buildSl 1 0 [] []⟩,
    ⟨(some 4), none, .move (.t 0)⟩,
    ⟨(some 5), none, .appG 1 (.t 3) (.t 4)⟩,
    ⟨(some 2), none, .move (.t 5)⟩])
  .ret))
theorem r_kit_Own_uint64 : resFn Try.prog 13 = some ⟨6, c_kit_Own_uint64.r, [.tmp 2]⟩ := by kernel_rfl
theorem k_kit_Own_uint64 : c_kit_Own_uint64.ok = true := by kernel_rfl



theorem ref02_limb_ok (a : List UInt64) (i : Int) : FnS Try.prog 54 [LU a, .i i] (.u (if 0 ≤ i then a.getD i.toNat 0 else 0)) [] := by
  refine FnS.val rfl (call_body r_ref02_limb k_ref02_limb (by simp) ?_)
  by_cases h0 : 0 ≤ i <;> by_cases h1 : i < a.length
  · have h2 : i.toNat < a.length := by omega
    simp [c_ref02_limb, h0, h1, h2]
  · have h2 : a[i.toNat]? = none := by simp; omega
    simp [c_ref02_limb, h0, h1, h2]
  · simp [c_ref02_limb, h0, h1]
  · simp [c_ref02_limb, h0, h1]

theorem ref02_Trim_ok (a : List UInt64) (ha : a.length ≤ 1048576) : FnS Try.prog 18 [LU a] (.dy 0 0) [RU (toL (val a))] := by
  refine FnS.row (call_body r_ref02_Trim k_ref02_Trim (by simp) ?_)
  simp [c_ref02_Trim]
  refine loop_wp (fun ρ D G N => D = [] ∧ G = [] ∧ N ≤ a.length ∧ lk ρ 0 = LU a ∧ lk ρ 3 = .i N ∧ val (a.take N) = val a) (N := a.length) (by simp) ?_
  rintro N ρ D G ⟨rfl, rfl, hN, h0, h3, ht⟩
  simp at h0
  have fin : (N = 0 ∨ a.getD (N - 1) 0 ≠ 0) → toL (val a) = a.take N := by
    intro h
    rw [← ht]
    refine toL_val ?_
    rcases h with rfl | h
    · exact .inl (by simp)
    · by_cases hz : N = 0
      · subst hz; exact .inl (by simp)
      · have : N = (N - 1) + 1 := by omega
        rw [this, take_succ_getD (by omega)]
        exact Trm_snoc h
  by_cases hz : N = 0
  · subst hz
    have hf := fin (.inl rfl)
    simp at h3 hf
    simp [h0, h3, hf, RowAt]
    exact ⟨0, 1, ⟨rfl, rfl⟩, by simp⟩
  · obtain ⟨n, rfl⟩ : ∃ n, N = n + 1 := ⟨N - 1, by omega⟩
    have hlt : n < a.length := by omega
    have h5 : ((n : Int) + 1 - 1).toNat = n := by omega
    simp [h0, h3, hlt, h5]
    refine ⟨by omega, fun hz0 => ⟨by omega, n, by omega, by omega, rfl, ?_⟩, fun hz0 => ⟨by omega, by omega, by omega, ?_⟩⟩
    · rw [← ht, val_take_succ hlt]
      simp [hlt, hz0]
    · have hf := fin (.inr (by simpa [hlt] using hz0))
      refine .inr ⟨0, 1, 1, rfl, ?_⟩
      rw [hf]
      simp [List.map_take]
      omega

theorem nat_row_trim_ok (a : List UInt64) {G : LHeap} {K : LV → LHeap → Prop} (h : K (LU (toL (val a))) G) (ha : a.length ≤ 1048576) : CallL Try.prog (.fn 77) [LU a] G K := by
  refine call_body r_nat_row_trim k_nat_row_trim (by simp) ?_
  simp [c_nat_row_trim]
  refine loop_wp (fun ρ D G' N => D = [] ∧ G' = G ∧ N ≤ a.length ∧ lk ρ 0 = LU (a.take N) ∧ val (a.take N) = val a) (N := a.length) (by simp) ?_
  rintro N ρ D G' ⟨rfl, rfl, hN, h0, ht⟩
  have hlen : (a.take N).length = N := by simp; omega
  simp [hlen, - List.map_take, - List.length_take] at h0
  have fin : (N = 0 ∨ a.getD (N - 1) 0 ≠ 0) → toL (val a) = a.take N := by
    intro h
    rw [← ht]
    refine toL_val ?_
    rcases h with rfl | h
    · exact .inl (by simp)
    · by_cases hz : N = 0
      · subst hz; exact .inl (by simp)
      · have : N = (N - 1) + 1 := by omega
        rw [this, take_succ_getD (by omega)]
        exact Trm_snoc h
  by_cases hz : N = 0
  · subst hz
    have hf := fin (.inl rfl)
    simp at h0 hf
    simp [hf] at h
    simp [h0, h]
  · obtain ⟨n, rfl⟩ : ∃ n, N = n + 1 := ⟨N - 1, by omega⟩
    have hlt : n < a.length := by omega
    have h5 : ((n : Int) + 1 - 1).toNat = n := by omega
    simp [h0, hlt, h5]
    refine ⟨by omega, by omega, fun hz0 => ⟨by omega, n, by omega, by omega, ⟨by rw [List.take_take]; congr 1; omega, by omega⟩, ?_⟩, fun hz0 => ?_⟩
    · rw [← ht, val_take_succ hlt]
      simp [hlt, hz0]
    · have hf := fin (.inr (by simpa [hlt] using hz0))
      rw [hf] at h
      simpa [hlen, hN] using h

theorem nat_Trim_ok (a : List UInt64) (ha : a.length ≤ 1048576) : FnS Try.prog 52 [LU a] (.dy 0 0) [RU (toL (val a))] := by
  have hl := toL_length_val a
  refine FnS.row (call_body r_nat_Trim k_nat_Trim (by simp) ?_)
  simp [c_nat_Trim]
  refine nat_row_trim_ok a ?_ ha
  simp
  exact ⟨by omega, .inr ⟨0, 1, 1, rfl, by simp⟩⟩

theorem kit_Own_ok (a : List UInt64) (ha : a.length ≤ 1048576) : FnS Try.prog 13 [LU a] (.dy 0 0) [RU a] := by
  refine FnS.row (call_body r_kit_Own_uint64 k_kit_Own_uint64 (by simp) ?_)
  simp [c_kit_Own_uint64, ha]
  exact .inr ⟨0, 1, 1, rfl, by simp⟩

theorem addC_true (a b : UInt64) : (a ≤ a + b → decide (a + b + 1 = 0) = (addC a b true).2) ∧ (a + b < a → true = (addC a b true).2) := by
  unfold addC
  refine ⟨fun h => ?_, fun h => ?_⟩
  · have h' : ¬ a + b < a := UInt64.not_lt.2 h
    simp [h']
  · simp [h]
theorem ref01_Add_ok (a b : UInt64) (c : Bool) : FnS Try.prog 53 [.u a, .u b, .bool c] (.tup [.u (addC a b c).1, .bool (addC a b c).2]) [] := by
  refine FnS.val rfl (call_body r_ref01_Add k_ref01_Add (by simp) ?_)
  cases c
  · simp [c_ref01_Add]
    simp [addC, addU_eq]
  · simp [c_ref01_Add]
    simp only [addU_eq]
    exact ⟨fun h => ⟨rfl, ((addC_true a b).2 h).symm⟩, fun h => ⟨rfl, (addC_true a b).1 h⟩⟩
theorem word_Add_ok (a b : UInt64) (c : Bool) : FnS Try.prog 80 [.u a, .u b, .bool c] (.tup [.u (addC a b c).1, .bool (addC a b c).2]) [] := by
  refine FnS.val rfl (call_body r_word_Add k_word_Add (by simp) ?_)
  cases c
  · simp [c_word_Add]
    simp [addC, addU_eq]
  · simp [c_word_Add]
    simp only [addU_eq]
    exact ⟨fun h => ⟨rfl, ((addC_true a b).2 h).symm⟩, fun h => ⟨rfl, (addC_true a b).1 h⟩⟩
end Go.Proofs.Ytlfffpmdofacjaa
