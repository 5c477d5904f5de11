/- Numbers modulo another one: odd ones, the radix, powers. -/
import Derived.Test.YtlfffpmdofacjaaFnN
namespace Go.Proofs.Ytlfffpmdofacjaa
open Go.Sv
set_option linter.unusedSimpArgs false

def c_modular_odd : LC :=
 (.seq (.ops [
   ⟨(some 2), none, .move (.c (.bool false))⟩])
 (.seq (.ops [
    ⟨(some 3), none, .move (.t 0)⟩,
    ⟨(some 4), none, .callV (.c (.fn (.func 58) [] [])) [(.t 3), (.c (.i 0))]⟩,
    ⟨(some 2), none, .move (.t 4)⟩])
  .ret))
theorem r_modular_odd : resFn Try.prog 69 = some ⟨5, c_modular_odd.r, [.tmp 2]⟩ := by kernel_rfl
theorem k_modular_odd : c_modular_odd.ok = true := by kernel_rfl

def c_modular_Const : LC :=
 (.seq (.ops [
   ⟨(some 2), none, .move (.c (.u 0))⟩,
   ⟨(some 3), none, .move (.c (.i 0))⟩])
 (.seq (.seq (.ops [
     ⟨(some 6), none, .move (.t 0)⟩,
     ⟨(some 7), none, .callV (.c (.fn (.func 69) [] [])) [(.t 6)]⟩,
     ⟨(some 8), none, .un .not (.t 7)⟩])
   (.cond (.t 8)
    (.seq (.ops [
       ⟨(some 2), none, .move (.c (.u 0))⟩,
       ⟨(some 3), none, .move (.c (.i 2))⟩])
     .ret)
    .skip))
  (.seq (.ops [
     ⟨(some 10), none, .move (.t 0)⟩,
     ⟨(some 11), none, .ixAddr 1 (.t 10) (.c (.i 0))⟩,
     ⟨(some 12), none, .load1 (.t 11)⟩,
     ⟨(some 13), none, .callV (.c (.fn (.func 70) [] [])) [(.t 12)]⟩,
     ⟨(some 9), none, .move (.t 13)⟩,
     ⟨(some 14), none, .extract 0 (.t 9)⟩,
     ⟨(some 15), none, .extract 1 (.t 9)⟩,
     ⟨(some 4), none, .move (.t 14)⟩,
     ⟨(some 5), none, .move (.t 15)⟩])
   (.seq (.ops [
      ⟨(some 16), none, .move (.t 4)⟩,
      ⟨(some 17), none, .un .neg (.t 16)⟩,
      ⟨(some 2), none, .move (.t 17)⟩,
      ⟨(some 3), none, .move (.c (.i 0))⟩])
    .ret))))
theorem r_modular_Const : resFn Try.prog 38 = some ⟨18, c_modular_Const.r, [.tmp 2, .tmp 3]⟩ := by kernel_rfl
theorem k_modular_Const : c_modular_Const.ok = true := by kernel_rfl

def c_modular_Radix : LC :=
 (.seq (.ops [
   ⟨(some 4), none, .move (.c .nilSl)⟩,
   ⟨(some 5), none, .move (.c (.i 0))⟩])
 (.seq (.seq (.ops [
     ⟨(some 6), none, .move (.t 0)⟩,
     ⟨(some 7), none, .bin .lss true 3 (.t 6) (.c (.i 0))⟩,
     ⟨(some 8), none, .move (.t 7)⟩,
     ⟨(some 9), (some (8, false)), .move (.t 0)⟩,
     ⟨(some 10), (some (8, false)), .bin .gtr true 3 (.t 9) (.c (.i 512))⟩,
     ⟨(some 11), none, .pick (.t 8) (.c (.bool true)) (.t 10)⟩])
   (.cond (.t 11)
    (.seq (.ops [
       ⟨(some 4), none, .move (.c .nilSl)⟩,
       ⟨(some 5), none, .move (.c (.i 2))⟩])
     .ret)
    .skip))
  (.seq (.ops [
     ⟨(some 12), none, .move (.t 0)⟩,
     ⟨(some 13), none, .mkSl 1 [(.u 0)] (.t 12) (.t 12)⟩,
     ⟨(some 14), none, .buildSl 1 1 [(.u 0)] [(0, 1, (.c (.u 1)))]⟩,
     ⟨(some 15), none, .appG 1 (.t 13) (.t 14)⟩,
     ⟨(some 16), none, .move (.t 1)⟩,
     ⟨(some 17), none, .callV (.c (.fn (.func 55) [] [])) [(.t 15), (.t 16)]⟩,
     ⟨(some 18), none, .extract 0 (.t 17)⟩,
     ⟨(some 19), none, .extract 1 (.t 17)⟩,
     ⟨(some 4), none, .move (.t 18)⟩,
     ⟨(some 5), none, .move (.t 19)⟩])
   .ret)))
theorem r_modular_Radix : resFn Try.prog 36 = some ⟨20, c_modular_Radix.r, [.tmp 4, .tmp 5]⟩ := by kernel_rfl
theorem k_modular_Radix : c_modular_Radix.ok = true := by kernel_rfl

def c_ref03_odd : LC :=
 (.seq (.ops [
   ⟨(some 2), none, .move (.c (.bool false))⟩])
 (.seq (.ops [
    ⟨(some 3), none, .move (.t 0)⟩,
    ⟨(some 4), none, .lenSl (.t 3)⟩,
    ⟨(some 5), none, .bin .gtr true 3 (.t 4) (.c (.i 0))⟩,
    ⟨(some 6), none, .move (.t 5)⟩,
    ⟨(some 7), (some (6, true)), .move (.t 0)⟩,
    ⟨(some 8), (some (6, true)), .ixAddr 1 (.t 7) (.c (.i 0))⟩,
    ⟨(some 9), (some (6, true)), .load1 (.t 8)⟩,
    ⟨(some 10), (some (6, true)), .bin .rem true 29 (.t 9) (.c (.u 2))⟩,
    ⟨(some 11), (some (6, true)), .bin .eql true 29 (.t 10) (.c (.u 1))⟩,
    ⟨(some 12), none, .pick (.t 6) (.t 11) (.c (.bool false))⟩,
    ⟨(some 2), none, .move (.t 12)⟩])
  .ret))
theorem r_ref03_odd : resFn Try.prog 74 = some ⟨13, c_ref03_odd.r, [.tmp 2]⟩ := by kernel_rfl
theorem k_ref03_odd : c_ref03_odd.ok = true := by kernel_rfl

def c_ref03_Const : LC :=
 (.seq (.ops [
   ⟨(some 2), none, .move (.c (.u 0))⟩,
   ⟨(some 3), none, .move (.c (.i 0))⟩])
 (.seq (.seq (.ops [
     ⟨(some 6), none, .move (.t 0)⟩,
     ⟨(some 7), none, .callV (.c (.fn (.func 74) [] [])) [(.t 6)]⟩,
     ⟨(some 8), none, .un .not (.t 7)⟩])
   (.cond (.t 8)
    (.seq (.ops [
       ⟨(some 2), none, .move (.c (.u 0))⟩,
       ⟨(some 3), none, .move (.c (.i 2))⟩])
     .ret)
    .skip))
  (.seq (.ops [
     ⟨(some 10), none, .move (.t 0)⟩,
     ⟨(some 11), none, .ixAddr 1 (.t 10) (.c (.i 0))⟩,
     ⟨(some 12), none, .load1 (.t 11)⟩,
     ⟨(some 13), none, .callV (.c (.fn (.func 75) [] [])) [(.t 12)]⟩,
     ⟨(some 9), none, .move (.t 13)⟩,
     ⟨(some 14), none, .extract 0 (.t 9)⟩,
     ⟨(some 15), none, .extract 1 (.t 9)⟩,
     ⟨(some 4), none, .move (.t 14)⟩,
     ⟨(some 5), none, .move (.t 15)⟩])
   (.seq (.ops [
      ⟨(some 16), none, .move (.t 4)⟩,
      ⟨(some 17), none, .un .neg (.t 16)⟩,
      ⟨(some 2), none, .move (.t 17)⟩,
      ⟨(some 3), none, .move (.c (.i 0))⟩])
    .ret))))
theorem r_ref03_Const : resFn Try.prog 45 = some ⟨18, c_ref03_Const.r, [.tmp 2, .tmp 3]⟩ := by kernel_rfl
theorem k_ref03_Const : c_ref03_Const.ok = true := by kernel_rfl

def c_ref03_power : LC :=
 (.seq (.ops [
   ⟨(some 2), none, .move (.c .nilSl)⟩])
 (.seq (.ops [
    ⟨(some 4), none, .move (.t 0)⟩,
    ⟨(some 5), none, .bin .add true 3 (.t 4) (.c (.i 1))⟩,
    ⟨(some 6), none, .mkSl 1 [(.u 0)] (.t 5) (.t 5)⟩,
    ⟨(some 3), none, .move (.t 6)⟩])
  (.seq (.ops [
     ⟨(some 7), none, .move (.t 3)⟩,
     ⟨(some 8), none, .move (.t 0)⟩,
     ⟨(some 9), none, .ixAddr 1 (.t 7) (.t 8)⟩,
     ⟨none, none, .store 1 (.t 9) (.c (.u 1))⟩])
   (.seq (.ops [
      ⟨(some 10), none, .move (.t 3)⟩,
      ⟨(some 2), none, .move (.t 10)⟩])
    .ret))))
theorem r_ref03_power : resFn Try.prog 73 = some ⟨11, c_ref03_power.r, [.tmp 2]⟩ := by kernel_rfl
theorem k_ref03_power : c_ref03_power.ok = true := by kernel_rfl

def c_ref03_Radix : LC :=
 (.seq (.ops [
   ⟨(some 4), none, .move (.c .nilSl)⟩,
   ⟨(some 5), none, .move (.c (.i 0))⟩])
 (.seq (.seq (.ops [
     ⟨(some 6), none, .move (.t 0)⟩,
     ⟨(some 7), none, .bin .lss true 3 (.t 6) (.c (.i 0))⟩,
     ⟨(some 8), none, .move (.t 7)⟩,
     ⟨(some 9), (some (8, false)), .move (.t 0)⟩,
     ⟨(some 10), (some (8, false)), .bin .gtr true 3 (.t 9) (.c (.i 512))⟩,
     ⟨(some 11), none, .pick (.t 8) (.c (.bool true)) (.t 10)⟩])
   (.cond (.t 11)
    (.seq (.ops [
       ⟨(some 4), none, .move (.c .nilSl)⟩,
       ⟨(some 5), none, .move (.c (.i 2))⟩])
     .ret)
    .skip))
  (.seq (.ops [
     ⟨(some 12), none, .move (.t 0)⟩,
     ⟨(some 13), none, .callV (.c (.fn (.func 73) [] [])) [(.t 12)]⟩,
     ⟨(some 14), none, .move (.t 1)⟩,
     ⟨(some 15), none, .callV (.c (.fn (.func 71) [] [])) [(.t 13), (.t 14)]⟩,
     ⟨(some 16), none, .extract 0 (.t 15)⟩,
     ⟨(some 17), none, .extract 1 (.t 15)⟩,
     ⟨(some 4), none, .move (.t 16)⟩,
     ⟨(some 5), none, .move (.t 17)⟩])
   .ret)))
theorem r_ref03_Radix : resFn Try.prog 44 = some ⟨18, c_ref03_Radix.r, [.tmp 4, .tmp 5]⟩ := by kernel_rfl
theorem k_ref03_Radix : c_ref03_Radix.ok = true := by kernel_rfl

def c_ref03_Pow : LC :=
 (.seq (.ops [
   ⟨(some 6), none, .move (.c .nilSl)⟩,
   ⟨(some 7), none, .move (.c (.i 0))⟩])
 (.seq (.ops [
    ⟨(some 12), none, .buildSl 1 1 [(.u 0)] [(0, 1, (.c (.u 1)))]⟩,
    ⟨(some 13), none, .move (.t 2)⟩,
    ⟨(some 14), none, .callV (.c (.fn (.func 71) [] [])) [(.t 12), (.t 13)]⟩,
    ⟨(some 11), none, .move (.t 14)⟩,
    ⟨(some 15), none, .extract 0 (.t 11)⟩,
    ⟨(some 16), none, .extract 1 (.t 11)⟩,
    ⟨(some 8), none, .move (.t 15)⟩,
    ⟨(some 9), none, .move (.t 16)⟩])
  (.seq (.seq (.ops [
      ⟨(some 17), none, .move (.t 9)⟩,
      ⟨(some 18), none, .bin .neq true 25 (.t 17) (.c (.i 0))⟩])
    (.cond (.t 18)
     (.seq (.ops [
        ⟨(some 19), none, .move (.t 9)⟩,
        ⟨(some 6), none, .move (.c .nilSl)⟩,
        ⟨(some 7), none, .move (.t 19)⟩])
      .ret)
     .skip))
   (.seq (.seq (.ops [
       ⟨(some 20), none, .move (.t 1)⟩,
       ⟨(some 21), none, .callV (.c (.fn (.func 61) [] [])) [(.t 20)]⟩,
       ⟨(some 22), none, .bin .sub true 3 (.t 21) (.c (.i 1))⟩,
       ⟨(some 10), none, .move (.t 22)⟩])
     (.block 0 (.loop (.seq (.seq (.ops [
           ⟨(some 23), none, .move (.t 10)⟩,
           ⟨(some 24), none, .bin .geq true 3 (.t 23) (.c (.i 0))⟩])
         (.cond (.t 24)
          .skip
          (.exit 0)))
        (.seq (.block 1 (.seq (.ops [
             ⟨(some 28), none, .move (.t 8)⟩,
             ⟨(some 29), none, .move (.t 8)⟩,
             ⟨(some 30), none, .move (.t 2)⟩,
             ⟨(some 31), none, .callV (.c (.fn (.func 41) [] [])) [(.t 28), (.t 29), (.t 30)]⟩,
             ⟨(some 27), none, .move (.t 31)⟩,
             ⟨(some 32), none, .extract 0 (.t 27)⟩,
             ⟨(some 33), none, .extract 1 (.t 27)⟩,
             ⟨(some 8), none, .move (.t 32)⟩])
           (.seq (.ops [
              ⟨(some 34), none, .move (.t 1)⟩,
              ⟨(some 35), none, .move (.t 10)⟩,
              ⟨(some 36), none, .callV (.c (.fn (.func 62) [] [])) [(.t 34), (.t 35)]⟩])
            (.cond (.t 36)
             (.ops [
               ⟨(some 38), none, .move (.t 8)⟩,
               ⟨(some 39), none, .move (.t 0)⟩,
               ⟨(some 40), none, .move (.t 2)⟩,
               ⟨(some 41), none, .callV (.c (.fn (.func 41) [] [])) [(.t 38), (.t 39), (.t 40)]⟩,
               ⟨(some 37), none, .move (.t 41)⟩,
               ⟨(some 42), none, .extract 0 (.t 37)⟩,
               ⟨(some 43), none, .extract 1 (.t 37)⟩,
               ⟨(some 8), none, .move (.t 42)⟩])
             .skip))))
         (.ops [
           ⟨(some 25), none, .move (.t 10)⟩,
           ⟨(some 26), none, .bin .sub true 3 (.t 25) (.c (.i 1))⟩,
           ⟨(some 10), none, .move (.t 26)⟩]))))))
    (.seq (.ops [
       ⟨(some 44), none, .move (.t 8)⟩,
       ⟨(some 6), none, .move (.t 44)⟩,
       ⟨(some 7), none, .move (.c (.i 0))⟩])
     .ret)))))
theorem r_ref03_Pow : resFn Try.prog 42 = some ⟨45, c_ref03_Pow.r, [.tmp 6, .tmp 7]⟩ := by kernel_rfl
theorem k_ref03_Pow : c_ref03_Pow.ok = true := by kernel_rfl

def c_modular_Pow : LC :=
 (.seq (.ops [
   ⟨(some 5), none, .box (.t 2)⟩,
   ⟨(some 6), none, .move (.c .nilSl)⟩,
   ⟨(some 7), none, .move (.c (.i 0))⟩])
 (.seq (.ops [
    ⟨(some 13), none, .buildSl 1 1 [(.u 0)] [(0, 1, (.c (.u 1)))]⟩,
    ⟨(some 14), none, .load1 (.t 5)⟩,
    ⟨(some 15), none, .callV (.c (.fn (.func 55) [] [])) [(.t 13), (.t 14)]⟩,
    ⟨(some 12), none, .move (.t 15)⟩,
    ⟨(some 16), none, .extract 0 (.t 12)⟩,
    ⟨(some 17), none, .extract 1 (.t 12)⟩,
    ⟨(some 8), none, .alloc [.nilSl]⟩,
    ⟨none, none, .store 1 (.t 8) (.t 16)⟩,
    ⟨(some 9), none, .move (.t 17)⟩])
  (.seq (.seq (.ops [
      ⟨(some 18), none, .move (.t 9)⟩,
      ⟨(some 19), none, .bin .neq true 25 (.t 18) (.c (.i 0))⟩])
    (.cond (.t 19)
     (.seq (.ops [
        ⟨(some 20), none, .move (.t 9)⟩,
        ⟨(some 6), none, .move (.c .nilSl)⟩,
        ⟨(some 7), none, .move (.t 20)⟩])
      .ret)
     .skip))
   (.seq (.ops [
      ⟨(some 21), none, .mkFunc 56 [] [(.t 8), (.t 5)]⟩,
      ⟨(some 10), none, .move (.t 21)⟩])
    (.seq (.seq (.ops [
        ⟨(some 22), none, .move (.t 1)⟩,
        ⟨(some 23), none, .callV (.c (.fn (.func 57) [] [])) [(.t 22)]⟩,
        ⟨(some 24), none, .bin .sub true 3 (.t 23) (.c (.i 1))⟩,
        ⟨(some 11), none, .move (.t 24)⟩])
      (.block 0 (.loop (.seq (.seq (.ops [
            ⟨(some 25), none, .move (.t 11)⟩,
            ⟨(some 26), none, .bin .geq true 3 (.t 25) (.c (.i 0))⟩])
          (.cond (.t 26)
           .skip
           (.exit 0)))
         (.seq (.block 1 (.seq (.ops [
              ⟨(some 29), none, .move (.t 10)⟩,
              ⟨(some 30), none, .load1 (.t 8)⟩,
              ⟨(some 31), none, .callV (.t 29) [(.t 30)]⟩])
            (.seq (.ops [
               ⟨(some 32), none, .move (.t 1)⟩,
               ⟨(some 33), none, .move (.t 11)⟩,
               ⟨(some 34), none, .callV (.c (.fn (.func 58) [] [])) [(.t 32), (.t 33)]⟩])
             (.cond (.t 34)
              (.ops [
                ⟨(some 35), none, .move (.t 10)⟩,
                ⟨(some 36), none, .move (.t 0)⟩,
                ⟨(some 37), none, .callV (.t 35) [(.t 36)]⟩])
              .skip))))
          (.ops [
            ⟨(some 27), none, .move (.t 11)⟩,
            ⟨(some 28), none, .bin .sub true 3 (.t 27) (.c (.i 1))⟩,
            ⟨(some 11), none, .move (.t 28)⟩]))))))
     (.seq (.ops [
        ⟨(some 38), none, .load1 (.t 8)⟩,
        ⟨(some 6), none, .move (.t 38)⟩,
        ⟨(some 7), none, .move (.c (.i 0))⟩])
      .ret))))))
theorem r_modular_Pow : resFn Try.prog 24 = some ⟨39, c_modular_Pow.r, [.tmp 6, .tmp 7]⟩ := by kernel_rfl
theorem k_modular_Pow : c_modular_Pow.ok = true := by kernel_rfl

def c_modular_Pow_1 : LC :=
 (.ops [
  ⟨(some 5), none, .load1 (.t 1)⟩,
  ⟨(some 6), none, .move (.t 0)⟩,
  ⟨(some 7), none, .load1 (.t 2)⟩,
  ⟨(some 8), none, .callV (.c (.fn (.func 26) [] [])) [(.t 5), (.t 6), (.t 7)]⟩,
  ⟨(some 4), none, .move (.t 8)⟩,
  ⟨(some 9), none, .extract 0 (.t 4)⟩,
  ⟨(some 10), none, .extract 1 (.t 4)⟩,
  ⟨none, none, .store 1 (.t 1) (.t 9)⟩])
theorem r_modular_Pow_1 : resFn Try.prog 56 = some ⟨11, c_modular_Pow_1.r, []⟩ := by kernel_rfl
theorem k_modular_Pow_1 : c_modular_Pow_1.ok = true := by kernel_rfl



theorem modular_odd_ok (n : List UInt64) : FnS Try.prog 69 [LU n] (.bool (oddL n)) [] := by
  refine FnS.val rfl (call_body r_modular_odd k_modular_odd (by simp) ?_)
  simp [c_modular_odd]
  refine CallL_F (nat_Bit_ok n 0 (by decide)) (by simp) ?_
  rw [oddL_val]
  simp
theorem ref03_odd_ok (n : List UInt64) : FnS Try.prog 74 [LU n] (.bool (oddL n)) [] := by
  refine FnS.val rfl (call_body r_ref03_odd k_ref03_odd (by simp) ?_)
  cases n with
  | nil => simp [c_ref03_odd, oddL]
  | cons x l =>
    have h : (0 : Int) < (l.length : Int) + 1 := by omega
    simp [c_ref03_odd, h, oddL, modU_eq]
theorem odd_head {n : List UInt64} (h : oddL n = true) : n.getD 0 0 % 2 = 1 := of_decide_eq_true h
theorem modular_Const_ok (n : List UInt64) : FnS Try.prog 38 [LU n] (.tup [.u (conR n), .i (conE n)]) [] := by
  refine FnS.val rfl (call_body r_modular_Const k_modular_Const (by simp) ?_)
  simp [c_modular_Const]
  refine CallL_F (modular_odd_ok n) (by simp) ?_
  by_cases h : oddL n = true
  · have hl := oddL_len h
    simp [h, hl, conE, conR]
    refine CallL_F (word_Inverse_ok (n.getD 0 0) (odd_head h)) (by simp [hl]) ?_
    simp [subU_eq, hl]
  · simp at h
    simp [h, conE, conR]
theorem ref03_Const_ok (n : List UInt64) : FnS Try.prog 45 [LU n] (.tup [.u (conR n), .i (conE n)]) [] := by
  refine FnS.val rfl (call_body r_ref03_Const k_ref03_Const (by simp) ?_)
  simp [c_ref03_Const]
  refine CallL_F (ref03_odd_ok n) (by simp) ?_
  by_cases h : oddL n = true
  · have hl := oddL_len h
    simp [h, hl, conE, conR]
    refine CallL_F (ref01_Inverse_ok (n.getD 0 0) (odd_head h)) (by simp [hl]) ?_
    simp [subU_eq, hl]
  · simp at h
    simp [h, conE, conR]
theorem modular_Radix_ok (l : Int) (n : List UInt64) (hn : n.length ≤ 4000) : FnS Try.prog 36 [.i l, LU n] (.tup [.dy 0 0, .i (rdE l (val n))]) [RU (rdR l (val n))] := by
  refine FnS.rowE (call_body r_modular_Radix k_modular_Radix (by simp) ?_)
  by_cases h1 : l < 0
  · simp [c_modular_Radix, h1, rdE, rdR, RowAt]
  by_cases h2 : 512 < l
  · simp [c_modular_Radix, h1, h2, rdE, rdR, RowAt]
  obtain ⟨k, rfl⟩ := Int.eq_ofNat_of_zero_le (show 0 ≤ l by omega)
  have h4 : ¬ ((k : Int) < 0) := by omega
  simp [c_modular_Radix, h2, h4, repU]
  refine ⟨by omega, by omega, ?_⟩
  refine CallL_S (modular_rest_ok (List.replicate k 0 ++ [1]) n (by simp; omega) (by omega)) (bors2 (RowAt.bor (l := List.replicate k 0 ++ [1]) (.inr ⟨0, 1, 1, rfl, by simp⟩)) (by simp)) ?_
  have h3 : ¬ (512 < (k : Int)) := h2
  simp [rdE, rdR, h3, h4, val_radix]
  exact .inr ⟨2, 0, 0, rfl, by simp [RU]⟩
theorem ref03_power_ok (k : Nat) (hk : k ≤ 512) : FnS Try.prog 73 [.i k] (.dy 0 0) [RU (List.replicate k 0 ++ [1])] := by
  refine FnS.row (call_body r_ref03_power k_ref03_power (by simp) ?_)
  have hto : ((k : Int) + 1).toNat = k + 1 := by omega
  have hlay := layU (List.replicate (k + 1) 0) k 1 (by simp)
  have e : (List.replicate (k + 1) (0 : UInt64)).set k 1 = List.replicate k 0 ++ [1] := by
    rw [List.replicate_succ']
    simp [List.set_append]
  rw [e] at hlay
  have hr : repL [LV.u 0] (k + 1) = (List.replicate (k + 1) (0 : UInt64)).map .u := repU _
  simp only [List.map_replicate] at hlay hr
  simp [c_ref03_power, hto, hr, hlay]
  refine ⟨by omega, by omega, by omega, by omega, ?_⟩
  exact .inr ⟨0, 0, 1, rfl, by simp⟩
theorem ref03_Radix_ok (l : Int) (n : List UInt64) (hn : n.length ≤ 4000) : FnS Try.prog 44 [.i l, LU n] (.tup [.dy 0 0, .i (rdE l (val n))]) [RU (rdR l (val n))] := by
  refine FnS.rowE (call_body r_ref03_Radix k_ref03_Radix (by simp) ?_)
  by_cases h1 : l < 0
  · simp [c_ref03_Radix, h1, rdE, rdR, RowAt]
  by_cases h2 : 512 < l
  · simp [c_ref03_Radix, h1, h2, rdE, rdR, RowAt]
  obtain ⟨k, rfl⟩ := Int.eq_ofNat_of_zero_le (show 0 ≤ l by omega)
  have h4 : ¬ ((k : Int) < 0) := by omega
  simp [c_ref03_Radix, h2, h4]
  refine CallL_F (ref03_power_ok k (by omega)) (by simp) ?_
  simp [RU]
  refine CallL_S (ref03_rest_ok (List.replicate k 0 ++ [1]) n (by simp; omega) (by omega)) (by simp) ?_
  have h3 : ¬ (512 < (k : Int)) := h2
  simp [rdE, rdR, h3, h4, val_radix]
  exact .inr ⟨0, 0, 0, rfl, by simp [RU]⟩

theorem ref03_Pow_ok (a x n : List UInt64) (ha : a.length ≤ 2000) (hx : x.length ≤ 2000) (hn : n.length ≤ 2000) : FnV Try.prog 42 [LU a, LU x, LU n] (.tup [LU (mR (val n) (val a ^ val x % val n)), .i (mE (val n))]) := by
  refine FnV.mk (by simp [LV.dat]) (call_body r_ref03_Pow k_ref03_Pow (by simp) ?_)
  simp [c_ref03_Pow]
  refine CallL_F (ref03_rest_ok [1] n (by simp) (by omega)) (bors2 (RowAt.bor (l := [1]) (.inr ⟨_, 0, 0, rfl, by simp⟩)) (by simp)) ?_
  by_cases h : val n = 0
  · simp [RU, h, mE, mR]
  have hm0 := fun y => toL_len_lt (b := n) (Nat.mod_lt y (show 0 < val n by omega))
  simp [RU, mE_p h, mR_p h, val_one]
  refine CallL_F (ref02_Bits_ok x (by omega)) (by simp) ?_
  have hbl := blen_le (val_lt x)
  simp
  refine ⟨by omega, ?_⟩
  refine loop_nx (fun ρ D G N => D = [] ∧ N ≤ 64 * x.length ∧ lk ρ 0 = LU a ∧ lk ρ 1 = LU x ∧ lk ρ 2 = LU n ∧ lk ρ 8 = LU (toL (val a ^ (val x / 2 ^ N) % val n)) ∧ lk ρ 10 = .i ((N : Int) - 1)) (N := blen (val x)) ⟨by simp, hbl, by simp, by simp, by simp, by simp [← pow_first], by simp⟩ ?_
  rintro N ρ D G ⟨rfl, hN, e0, e1, e2, e8, e10⟩ Nx hNx
  cases N with
  | zero =>
    simp at e8 e10
    simp [e8, e10]
  | succ N =>
    have e : ((N + 1 : Nat) : Int) - 1 = N := by omega
    rw [e] at e10
    obtain ⟨r, hr⟩ : ∃ r, val a ^ (val x / 2 ^ (N + 1)) % val n = r := ⟨_, rfl⟩
    have hrl : (toL r).length ≤ n.length := by rw [← hr]; exact hm0 _
    rw [hr] at e8
    simp [e10, e8, e2]
    refine CallL_F (ref03_Mul_ok (toL r) (toL r) n (by omega) (by omega) (by omega)) (by simp) ?_
    simp [RU, val_toL, mE_p h, mR_p h, e1, e10]
    refine CallL_F (ref02_Bit_ok x N (by omega)) (by simp) ?_
    cases htb : (val x).testBit N
    · have hq := pow_sq hr.symm htb
      simp [htb, e10]
      refine ⟨by omega, hNx _ _ _ ⟨N, by omega, rfl, by omega, by simp [e0], by simp [e1], by simp [e2], by simp [hq], by simp⟩⟩
    · have hq := pow_sqm hr.symm htb
      have hq2 := hq
      simp at hq2
      simp [htb, e0, e2]
      refine CallL_F (ref03_Mul_ok (toL (r * r % val n)) a n (by have := hm0 (r * r); omega) (by omega) (by omega)) (by simp) ?_
      simp [RU, val_toL, mE_p h, mR_p h, e10]
      refine ⟨by omega, hNx _ _ _ ⟨N, by omega, rfl, by omega, by simp [e0], by simp [e1], by simp [e2], by simp [hq2], by simp⟩⟩
/-- What the inner function of a power does. -/
theorem modular_times_ok (b n o : List UInt64) {G : LHeap} {po pn so sn : Nat} {K : LV → LHeap → Prop} (hb : b.length ≤ 2000) (ho : o.length ≤ 2000) (hnl : n.length ≤ 2000) (hn0 : val n ≠ 0)
    (ho' : G[po]? = some (.cells [LU o] so)) (hn : G[pn]? = some (.cells [LU n] sn)) (k : K (.tup []) (G.set po (.cells [LU (toL (val o * val b % val n))] (so + 1)))) :
    CallL Try.prog (.fn 56) [LU b, .ptr po 0, .ptr pn 0] G K := by
  refine call_body r_modular_Pow_1 k_modular_Pow_1 (by simp) ?_
  simp only [LU] at ho' hn k
  simp [c_modular_Pow_1, ho', hn]
  refine CallL_F (modular_Mul_ok o b n (by omega) (by omega) (by omega)) (by simp) ?_
  simp [RU, mR_p hn0, ho']
  exact k
theorem modular_Pow_ok (a x n : List UInt64) (ha : a.length ≤ 2000) (hx : x.length ≤ 2000) (hn : n.length ≤ 2000) : FnV Try.prog 24 [LU a, LU x, LU n] (.tup [LU (mR (val n) (val a ^ val x % val n)), .i (mE (val n))]) := by
  refine FnV.mk (by simp [LV.dat]) (call_body r_modular_Pow k_modular_Pow (by simp) ?_)
  simp [c_modular_Pow]
  refine CallL_F (modular_rest_ok [1] n (by simp) (by omega)) (bors2 (RowAt.bor (l := [1]) (.inr ⟨_, 0, 0, rfl, by simp⟩)) (by simp)) ?_
  by_cases h : val n = 0
  · simp [RU, h, mE, mR]
  have hm0 := fun y => toL_len_lt (b := n) (Nat.mod_lt y (show 0 < val n by omega))
  simp [RU, mE_p h, mR_p h, val_one]
  refine CallL_F (nat_Bits_ok x (by omega)) (by simp) ?_
  have hbl := blen_le (val_lt x)
  simp
  refine ⟨by omega, ?_⟩
  refine loop_nx (fun ρ D G N => ∃ st, D = [] ∧ N ≤ 64 * x.length ∧ lk ρ 0 = LU a ∧ lk ρ 1 = LU x ∧ lk ρ 8 = .ptr 2 0 ∧ lk ρ 10 = .fn (.func 56) [] [.ptr 2 0, .ptr 0 0] ∧ lk ρ 11 = .i ((N : Int) - 1) ∧ G[0]? = some (.cells [LU n] 0) ∧ G[2]? = some (.cells [LU (toL (val a ^ (val x / 2 ^ N) % val n))] st)) (N := blen (val x)) ⟨1, by simp, hbl, by simp, by simp, by simp, by simp, by simp, by simp, by simp [← pow_first]⟩ ?_
  rintro N ρ D G ⟨st, rfl, hN, e0, e1, e8, e10, e11, g0, g2⟩ Nx hNx
  cases N with
  | zero =>
    simp at g2 e11
    simp [e8, e11, g2]
  | succ N =>
    have e : ((N + 1 : Nat) : Int) - 1 = N := by omega
    rw [e] at e11
    obtain ⟨r, hr⟩ : ∃ r, val a ^ (val x / 2 ^ (N + 1)) % val n = r := ⟨_, rfl⟩
    have hrl : (toL r).length ≤ n.length := by rw [← hr]; exact hm0 _
    rw [hr] at g2
    have g2' := g2
    simp only [LU] at g2'
    simp [e10, e11, e8, g2']
    refine modular_times_ok (toL r) n (toL r) (by omega) (by omega) (by omega) h g2 g0 ?_
    rw [val_toL]
    have k2 := gset g2 (.cells [LU (toL (r * r % val n))] (st + 1))
    have k0 : (G.set 2 (.cells [LU (toL (r * r % val n))] (st + 1)))[0]? = some (.cells [LU n] 0) := by rw [gset_ne (by decide)]; exact g0
    simp [e1, e11]
    refine CallL_F (nat_Bit_ok x N (by omega)) (by simp) ?_
    cases htb : (val x).testBit N
    · have hq := pow_sq hr.symm htb
      rw [hq] at k2 k0
      simp [htb, e11, hq]
      refine ⟨by omega, hNx _ _ _ ⟨N, by omega, st + 1, rfl, by omega, by simp [e0], by simp [e1], by simp [e8], by simp [e10], by simp, k0, k2⟩⟩
    · have hq := pow_sqm hr.symm htb
      simp [htb, e10, e0]
      refine modular_times_ok a n (toL (r * r % val n)) (by omega) (by have := hm0 (r * r); omega) (by omega) h k2 k0 ?_
      rw [val_toL, hq]
      simp [e11]
      refine ⟨by omega, hNx _ _ _ ⟨N, by omega, st + 2, rfl, by omega, by simp [e0], by simp [e1], by simp [e8], by simp [e10], by simp, by rw [gset_ne (by decide)]; exact g0, ?_⟩⟩
      have := (List.getElem?_eq_some_iff.1 g2).1
      simp [this]
end Go.Proofs.Ytlfffpmdofacjaa
