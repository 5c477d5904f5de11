/- Instructions: which may be. -/
import Derived.Test.YtbcfbojigokplaaSvG4
import Derived.Test.YtbcfbojigokplaaFnT
namespace Go.Proofs.Ytbcfbojigokplaa
open Go.Sv
set_option linter.unusedSimpArgs false
set_option maxRecDepth 10000

def c_inst_small : LC :=
 (.seq (.ops [
   ⟨(some 2), none, .move (.c (.bool false))⟩])
 (.seq (.ops [
    ⟨(some 3), none, .move (.t 0)⟩,
    ⟨(some 4), none, .move (.t 0)⟩,
    ⟨(some 5), none, .cvInt .i32 (.t 4)⟩,
    ⟨(some 6), none, .cvInt .i64 (.t 5)⟩,
    ⟨(some 7), none, .bin .eql false 2 (.t 3) (.t 6)⟩,
    ⟨(some 2), none, .move (.t 7)⟩])
  .ret))
theorem r_inst_small : resFn Try.prog 38 = some ⟨8, c_inst_small.r, [.tmp 2]⟩ := by kernel_rfl
theorem k_inst_small : c_inst_small.ok = true := by kernel_rfl

def c_inst_form_number : LC :=
 (.seq (.ops [
   ⟨(some 2), none, .box (.t 0)⟩,
   ⟨(some 4), none, .move (.c (.bool false))⟩])
 (.seq (.block 0 (.seq (.ops [
      ⟨(some 6), none, .loadN 4 (.t 2)⟩,
      ⟨(some 7), none, .callV (.c (.fn (.func 28) [] [])) [(.t 6), (.c (.i 32))]⟩,
      ⟨(some 5), none, .move (.t 7)⟩])
    (.cond (.t 5)
     (.seq (.ops [
        ⟨(some 4), none, .move (.c (.bool true))⟩])
      .ret)
     (.seq (.ops [
        ⟨(some 9), none, .loadN 4 (.t 2)⟩,
        ⟨(some 10), none, .callV (.c (.fn (.func 28) [] [])) [(.t 9), (.c (.i 16))]⟩,
        ⟨(some 8), none, .move (.t 10)⟩])
      (.cond (.t 8)
       (.seq (.ops [
          ⟨(some 11), none, .move (.t 1)⟩,
          ⟨(some 12), none, .callV (.c (.fn (.func 38) [] [])) [(.t 11)]⟩,
          ⟨(some 4), none, .move (.t 12)⟩])
        .ret)
       (.seq (.ops [
          ⟨(some 14), none, .loadN 4 (.t 2)⟩,
          ⟨(some 15), none, .callV (.c (.fn (.func 28) [] [])) [(.t 14), (.c (.i 64))]⟩,
          ⟨(some 13), none, .move (.t 15)⟩])
        (.cond (.t 13)
         (.seq (.ops [
            ⟨(some 16), none, .move (.t 1)⟩,
            ⟨(some 17), none, .bin .geq true 2 (.t 16) (.c (.i 1))⟩,
            ⟨(some 18), none, .move (.t 17)⟩,
            ⟨(some 19), (some (18, true)), .move (.t 1)⟩,
            ⟨(some 20), (some (18, true)), .bin .leq true 2 (.t 19) (.c (.i 63))⟩,
            ⟨(some 21), none, .pick (.t 18) (.t 20) (.c (.bool false))⟩,
            ⟨(some 4), none, .move (.t 21)⟩])
          .ret)
         .skip)))))))
  (.seq (.ops [
     ⟨(some 22), none, .move (.t 1)⟩,
     ⟨(some 23), none, .bin .eql true 2 (.t 22) (.c (.i 0))⟩,
     ⟨(some 4), none, .move (.t 23)⟩])
   .ret)))
theorem r_inst_form_number : resFn Try.prog 27 = some ⟨24, c_inst_form_number.r, [.tmp 4]⟩ := by kernel_rfl
theorem k_inst_form_number : c_inst_form_number.ok = true := by kernel_rfl

def c_slices_Index_int_int : LC :=
 (.seq (.ops [
   ⟨(some 4), none, .move (.c (.i 0))⟩])
 (.seq (.seq (.ops [
     ⟨(some 6), none, .move (.t 0)⟩,
     ⟨(some 7), none, .lenSl (.t 6)⟩,
     ⟨(some 8), none, .move (.c (.i 0))⟩])
   (.block 0 (.loop (.seq (.ops [
        ⟨(some 9), none, .bin .lss false 3 (.t 8) (.t 7)⟩])
      (.seq (.cond (.t 9)
        .skip
        (.exit 0))
       (.seq (.block 1 (.seq (.ops [
            ⟨(some 10), none, .move (.t 8)⟩,
            ⟨(some 5), none, .move (.t 10)⟩])
          (.seq (.ops [
             ⟨(some 11), none, .move (.t 1)⟩,
             ⟨(some 12), none, .move (.t 0)⟩,
             ⟨(some 13), none, .move (.t 5)⟩,
             ⟨(some 14), none, .ixAddr 1 (.t 12) (.t 13)⟩,
             ⟨(some 15), none, .load1 (.t 14)⟩,
             ⟨(some 16), none, .bin .eql false 3 (.t 11) (.t 15)⟩])
           (.cond (.t 16)
            (.seq (.ops [
               ⟨(some 17), none, .move (.t 5)⟩,
               ⟨(some 4), none, .move (.t 17)⟩])
             .ret)
            .skip))))
        (.ops [
          ⟨(some 18), none, .bin .add true 3 (.t 8) (.c (.i 1))⟩,
          ⟨(some 8), none, .move (.t 18)⟩])))))))
  (.seq (.ops [
     ⟨(some 4), none, .move (.c (.i (-1)))⟩])
   .ret)))
theorem r_slices_Index_int_int : resFn Try.prog 42 = some ⟨19, c_slices_Index_int_int.r, [.tmp 4]⟩ := by kernel_rfl
theorem k_slices_Index_int_int : c_slices_Index_int_int.ok = true := by kernel_rfl

def c_slices_Contains_int_int : LC :=
 (.seq (.ops [
   ⟨(some 4), none, .move (.c (.bool false))⟩])
 (.seq (.ops [
    ⟨(some 5), none, .move (.t 0)⟩,
    ⟨(some 6), none, .move (.t 1)⟩,
    ⟨(some 7), none, .callV (.c (.fn (.func 42) [] [])) [(.t 5), (.t 6)]⟩,
    ⟨(some 8), none, .bin .geq true 3 (.t 7) (.c (.i 0))⟩,
    ⟨(some 4), none, .move (.t 8)⟩])
  .ret))
theorem r_slices_Contains_int_int : resFn Try.prog 39 = some ⟨9, c_slices_Contains_int_int.r, [.tmp 4]⟩ := by kernel_rfl
theorem k_slices_Contains_int_int : c_slices_Contains_int_int.ok = true := by kernel_rfl

def c_inst_place : LC :=
 (.seq (.ops [
   ⟨(some 1), none, .box (.t 0)⟩,
   ⟨(some 2), none, .move (.c (.bool false))⟩])
 (.seq (.seq (.ops [
     ⟨(some 3), none, .fieldAddr 0 (.t 1)⟩,
     ⟨(some 4), none, .load1 (.t 3)⟩,
     ⟨(some 5), none, .callV (.c (.fn (.func 29) [] [])) [(.t 4)]⟩,
     ⟨(some 6), none, .un .not (.t 5)⟩,
     ⟨(some 7), none, .move (.t 6)⟩,
     ⟨(some 8), (some (7, false)), .fieldAddr 3 (.t 1)⟩,
     ⟨(some 9), (some (7, false)), .load1 (.t 8)⟩,
     ⟨(some 10), (some (7, false)), .callV (.c (.fn (.func 38) [] [])) [(.t 9)]⟩,
     ⟨(some 11), (some (7, false)), .un .not (.t 10)⟩,
     ⟨(some 12), none, .pick (.t 7) (.c (.bool true)) (.t 11)⟩])
   (.cond (.t 12)
    (.seq (.ops [
       ⟨(some 2), none, .move (.c (.bool false))⟩])
     .ret)
    .skip))
  (.seq (.seq (.ops [
      ⟨(some 13), none, .fieldAddr 1 (.t 1)⟩,
      ⟨(some 14), none, .load1 (.t 13)⟩,
      ⟨(some 15), none, .bin .eql true 3 (.t 14) (.c (.i (-1)))⟩])
    (.cond (.t 15)
     (.seq (.ops [
        ⟨(some 16), none, .fieldAddr 2 (.t 1)⟩,
        ⟨(some 17), none, .load1 (.t 16)⟩,
        ⟨(some 18), none, .bin .eql true 3 (.t 17) (.c (.i 1))⟩,
        ⟨(some 2), none, .move (.t 18)⟩])
      .ret)
     .skip))
   (.seq (.ops [
      ⟨(some 19), none, .fieldAddr 1 (.t 1)⟩,
      ⟨(some 20), none, .load1 (.t 19)⟩,
      ⟨(some 21), none, .callV (.c (.fn (.func 29) [] [])) [(.t 20)]⟩,
      ⟨(some 22), none, .move (.t 21)⟩,
      ⟨(some 23), (some (22, true)), .fieldAddr 1 (.t 1)⟩,
      ⟨(some 24), (some (22, true)), .load1 (.t 23)⟩,
      ⟨(some 25), (some (22, true)), .bin .neq true 3 (.t 24) (.c (.i 4))⟩,
      ⟨(some 26), none, .pick (.t 22) (.t 25) (.c (.bool false))⟩,
      ⟨(some 27), none, .move (.t 26)⟩,
      ⟨(some 28), (some (27, true)), .buildSl 1 4 [(.i 0), (.i 0), (.i 0), (.i 0)] [(0, 1, (.c (.i 1))), (1, 1, (.c (.i 2))), (2, 1, (.c (.i 4))), (3, 1, (.c (.i 8)))]⟩,
      ⟨(some 29), (some (27, true)), .fieldAddr 2 (.t 1)⟩,
      ⟨(some 30), (some (27, true)), .load1 (.t 29)⟩,
      ⟨(some 31), (some (27, true)), .callV (.c (.fn (.func 39) [] [])) [(.t 28), (.t 30)]⟩,
      ⟨(some 32), none, .pick (.t 27) (.t 31) (.c (.bool false))⟩,
      ⟨(some 2), none, .move (.t 32)⟩])
    .ret))))
theorem r_inst_place : resFn Try.prog 30 = some ⟨33, c_inst_place.r, [.tmp 2]⟩ := by kernel_rfl
theorem k_inst_place : c_inst_place.ok = true := by kernel_rfl

def c_inst_Check : LC :=
 (.seq (.ops [
   ⟨(some 1), none, .box (.t 0)⟩,
   ⟨(some 2), none, .move (.c (.i 0))⟩])
 (.seq (.ops [
    ⟨(some 6), none, .fieldAddr 0 (.t 1)⟩,
    ⟨(some 7), none, .load1 (.t 6)⟩,
    ⟨(some 8), none, .callV (.c (.fn (.func 26) [] [])) [(.t 7)]⟩,
    ⟨(some 3), none, .alloc [(.str []), (.i 0), (.i 0), (.i 0)]⟩,
    ⟨none, none, .store 4 (.t 3) (.t 8)⟩])
  (.seq (.seq (.ops [
      ⟨(some 9), none, .fieldAddr 0 (.t 3)⟩,
      ⟨(some 10), none, .load1 (.t 9)⟩,
      ⟨(some 11), none, .bin .eql true 9 (.t 10) (.c (.str []))⟩,
      ⟨(some 12), none, .move (.t 11)⟩,
      ⟨(some 13), (some (12, false)), .loadN 4 (.t 3)⟩,
      ⟨(some 14), (some (12, false)), .fieldAddr 8 (.t 1)⟩,
      ⟨(some 15), (some (12, false)), .load1 (.t 14)⟩,
      ⟨(some 16), (some (12, false)), .callV (.c (.fn (.func 27) [] [])) [(.t 13), (.t 15)]⟩,
      ⟨(some 17), (some (12, false)), .un .not (.t 16)⟩,
      ⟨(some 18), none, .pick (.t 12) (.c (.bool true)) (.t 17)⟩])
    (.cond (.t 18)
     (.seq (.ops [
        ⟨(some 2), none, .move (.c (.i 2))⟩])
      .ret)
     .skip))
   (.seq (.seq (.ops [
       ⟨(some 19), none, .fieldAddr 1 (.t 1)⟩,
       ⟨(some 20), none, .load1 (.t 19)⟩,
       ⟨(some 21), none, .build [(.i 0), (.i 0)] [(0, 1, (.c (.i 1))), (1, 1, (.t 20))]⟩,
       ⟨(some 22), none, .fieldAddr 2 (.t 1)⟩,
       ⟨(some 23), none, .load1 (.t 22)⟩,
       ⟨(some 24), none, .build [(.i 0), (.i 0)] [(0, 1, (.c (.i 2))), (1, 1, (.t 23))]⟩,
       ⟨(some 25), none, .fieldAddr 3 (.t 1)⟩,
       ⟨(some 26), none, .load1 (.t 25)⟩,
       ⟨(some 27), none, .build [(.i 0), (.i 0)] [(0, 1, (.c (.i 4))), (1, 1, (.t 26))]⟩,
       ⟨(some 28), none, .build [(.i 0), (.i 0), (.i 0), (.i 0), (.i 0), (.i 0)] [(0, 2, (.t 21)), (2, 2, (.t 24)), (4, 2, (.t 27))]⟩,
       ⟨(some 29), none, .move (.c (.i 0))⟩])
     (.block 0 (.loop (.seq (.ops [
          ⟨(some 30), none, .bin .lss true 3 (.t 29) (.c (.i 3))⟩])
        (.seq (.cond (.t 30)
          .skip
          (.exit 0))
         (.seq (.block 1 (.seq (.ops [
              ⟨(some 31), none, .ixArr true 3 2 (.t 28) (.t 29)⟩,
              ⟨(some 5), none, .alloc [(.i 0), (.i 0)]⟩,
              ⟨none, none, .store 2 (.t 5) (.t 31)⟩])
            (.seq (.ops [
               ⟨(some 32), none, .loadN 4 (.t 3)⟩,
               ⟨(some 33), none, .fieldAddr 0 (.t 5)⟩,
               ⟨(some 34), none, .load1 (.t 33)⟩,
               ⟨(some 35), none, .callV (.c (.fn (.func 28) [] [])) [(.t 32), (.t 34)]⟩,
               ⟨(some 36), none, .move (.t 35)⟩,
               ⟨(some 37), (some (36, true)), .fieldAddr 1 (.t 5)⟩,
               ⟨(some 38), (some (36, true)), .load1 (.t 37)⟩,
               ⟨(some 39), (some (36, true)), .callV (.c (.fn (.func 29) [] [])) [(.t 38)]⟩,
               ⟨(some 40), (some (36, true)), .un .not (.t 39)⟩,
               ⟨(some 41), none, .pick (.t 36) (.t 40) (.c (.bool false))⟩,
               ⟨(some 42), none, .move (.t 41)⟩,
               ⟨(some 43), (some (42, false)), .loadN 4 (.t 3)⟩,
               ⟨(some 44), (some (42, false)), .fieldAddr 0 (.t 5)⟩,
               ⟨(some 45), (some (42, false)), .load1 (.t 44)⟩,
               ⟨(some 46), (some (42, false)), .callV (.c (.fn (.func 28) [] [])) [(.t 43), (.t 45)]⟩,
               ⟨(some 47), (some (42, false)), .un .not (.t 46)⟩,
               ⟨(some 48), (some (42, false)), .move (.t 47)⟩,
               ⟨(some 49), (some (48, true)), .fieldAddr 1 (.t 5)⟩,
               ⟨(some 50), (some (48, true)), .load1 (.t 49)⟩,
               ⟨(some 51), (some (48, true)), .bin .neq true 3 (.t 50) (.c (.i 0))⟩,
               ⟨(some 52), (some (42, false)), .pick (.t 48) (.t 51) (.c (.bool false))⟩,
               ⟨(some 53), none, .pick (.t 42) (.c (.bool true)) (.t 52)⟩])
             (.cond (.t 53)
              (.seq (.ops [
                 ⟨(some 2), none, .move (.c (.i 2))⟩])
               .ret)
              .skip))))
          (.ops [
            ⟨(some 54), none, .bin .add true 3 (.t 29) (.c (.i 1))⟩,
            ⟨(some 29), none, .move (.t 54)⟩])))))))
    (.seq (.seq (.ops [
        ⟨(some 55), none, .loadN 4 (.t 3)⟩,
        ⟨(some 56), none, .callV (.c (.fn (.func 28) [] [])) [(.t 55), (.c (.i 8))]⟩,
        ⟨(some 57), none, .move (.t 56)⟩,
        ⟨(some 58), (some (57, true)), .fieldAddr 4 (.t 1)⟩,
        ⟨(some 59), (some (57, true)), .loadN 4 (.t 58)⟩,
        ⟨(some 60), (some (57, true)), .callV (.c (.fn (.func 30) [] [])) [(.t 59)]⟩,
        ⟨(some 61), (some (57, true)), .un .not (.t 60)⟩,
        ⟨(some 62), none, .pick (.t 57) (.t 61) (.c (.bool false))⟩,
        ⟨(some 63), none, .move (.t 62)⟩,
        ⟨(some 64), (some (63, false)), .loadN 4 (.t 3)⟩,
        ⟨(some 65), (some (63, false)), .callV (.c (.fn (.func 28) [] [])) [(.t 64), (.c (.i 8))]⟩,
        ⟨(some 66), (some (63, false)), .un .not (.t 65)⟩,
        ⟨(some 67), (some (63, false)), .move (.t 66)⟩,
        ⟨(some 68), (some (67, true)), .fieldAddr 4 (.t 1)⟩,
        ⟨(some 69), (some (67, true)), .loadN 4 (.t 68)⟩,
        ⟨(some 70), (some (67, true)), .build [(.i 0), (.i 0), (.i 0), (.i 0)] []⟩,
        ⟨(some 71), (some (67, true)), .bin .neq false 23 (.t 69) (.t 70)⟩,
        ⟨(some 72), (some (63, false)), .pick (.t 67) (.t 71) (.c (.bool false))⟩,
        ⟨(some 73), none, .pick (.t 63) (.c (.bool true)) (.t 72)⟩,
        ⟨(some 74), none, .move (.t 73)⟩,
        ⟨(some 75), (some (74, false)), .loadN 4 (.t 3)⟩,
        ⟨(some 76), (some (74, false)), .callV (.c (.fn (.func 28) [] [])) [(.t 75), (.c (.i 4))]⟩,
        ⟨(some 77), (some (74, false)), .move (.t 76)⟩,
        ⟨(some 78), (some (77, true)), .fieldAddr 1 (.t 1)⟩,
        ⟨(some 79), (some (77, true)), .load1 (.t 78)⟩,
        ⟨(some 80), (some (77, true)), .fieldAddr 2 (.t 1)⟩,
        ⟨(some 81), (some (77, true)), .load1 (.t 80)⟩,
        ⟨(some 82), (some (77, true)), .bin .eql false 3 (.t 79) (.t 81)⟩,
        ⟨(some 83), (some (74, false)), .pick (.t 77) (.t 82) (.c (.bool false))⟩,
        ⟨(some 84), none, .pick (.t 74) (.c (.bool true)) (.t 83)⟩])
      (.cond (.t 84)
       (.seq (.ops [
          ⟨(some 2), none, .move (.c (.i 2))⟩])
        .ret)
       .skip))
     (.seq (.ops [
        ⟨(some 2), none, .move (.c (.i 0))⟩])
      .ret))))))
theorem r_inst_Check : resFn Try.prog 9 = some ⟨85, c_inst_Check.r, [.tmp 2]⟩ := by kernel_rfl
theorem k_inst_Check : c_inst_Check.ok = true := by kernel_rfl



theorem hasB_ok (e : OpForm) (w : Nat) (he : e.2.1 < 1000000) (hw : w < 1000000) : FnS Try.prog 28 [.agg (ftC e), .i w] (.bool (hasB e w)) [] := inst_form_has_ok e w he hw
theorem inst_small_ok (n : Int) (h : inI n) : FnS Try.prog 38 [.i n] (.bool (smallB n)) [] := by
  refine FnS.val rfl (call_body r_inst_small k_inst_small (by simp) ?_)
  have hw : decide (n = w32 n) = smallB n := by
    unfold smallB w32
    unfold inI at h
    by_cases h0 : -2147483648 ≤ n ∧ n < 2147483648
    · rw [decide_eq_true h0, decide_eq_true (by omega)]
    · rw [decide_eq_false h0, decide_eq_false (by omega)]
  have hb : -9223372036854775808 ≤ w32 n ∧ w32 n < 9223372036854775808 := by unfold w32; omega
  simp [c_inst_small, hw, hb]
theorem number_ok (e : OpForm) (n : Int) (he : e.2.1 < 1000000) (h : inI n) : FnS Try.prog 27 [.agg (ftC e), .i n] (.bool (numB e n)) [] := by
  refine FnS.val rfl (call_body r_inst_form_number k_inst_form_number (by simp) ?_)
  simp [c_inst_form_number, ftC]
  refine CallL_F (hasB_ok e 32 he (by omega)) (bors_self _ rfl) ?_
  cases h32 : hasB e 32 with
  | true => simp [numB, h32]
  | false =>
  simp
  refine CallL_F (hasB_ok e 16 he (by omega)) (bors_self _ rfl) ?_
  cases h16 : hasB e 16 with
  | true =>
    simp
    refine CallL_F (inst_small_ok n h) (by simp) ?_
    simp [numB, h32, h16]
  | false =>
  simp
  refine CallL_F (hasB_ok e 64 he (by omega)) (bors_self _ rfl) ?_
  cases h64 : hasB e 64 with
  | true => by_cases g1 : 1 ≤ n <;> by_cases g2 : n ≤ 63 <;> simp [numB, h32, h16, h64, g1, g2]
  | false => simp [numB, h32, h16, h64]
theorem IndexI_ok (l : List Int) (s : Int) (hl : l.length ≤ 9223372036854775807) : FnS Try.prog 42 [.lst (l.map .i) l.length 1, .i s] (.i (ixZ (fun n => decide (s = n)) l)) [] := by
  refine FnS.val rfl (call_body r_slices_Index_int_int k_slices_Index_int_int (by simp) ?_)
  simp [c_slices_Index_int_int]
  refine loop_nx (fun ρ D G N => ∃ i : Nat, D = [] ∧ N + i = l.length ∧ lk ρ 0 = .lst (l.map .i) l.length 1 ∧ lk ρ 1 = .i s ∧ lk ρ 7 = .i l.length ∧ lk ρ 8 = .i i ∧ ∀ j b, j < i → l[j]? = some b → decide (s = b) = false) (N := l.length) ⟨0, by simp⟩ ?_
  rintro N ρ D G ⟨i, rfl, hN, h0, h1, h7, h8, hn⟩ Nx hNx
  by_cases hi : l.length ≤ i
  · have g : ¬ i < l.length := by omega
    simp [h0, h1, h7, h8, g]
    rw [ixZ_none hi hn]
  · have g : i < l.length := by omega
    have hg := List.getElem?_eq_getElem g
    by_cases hb : s = l[i]
    · simp [h0, h1, h7, h8, g]
      simp [nthL_at (map_at (f := LV.i) hg), ← hb]
      rw [ixZ_at hg (by simp [hb]) hn]
    · simp [h0, h1, h7, h8, g]
      simp [nthL_at (map_at (f := LV.i) hg), h8, hb]
      refine ⟨by omega, hNx _ _ _ ⟨N - 1, by omega, i + 1, rfl, by omega, by simp [h0], by simp [h1], by simp [h7], by simp, fun j b hj hjb => ?_⟩⟩
      by_cases e : j = i
      · subst e; rw [hg] at hjb; cases hjb; simp [hb]
      · exact hn j b (by omega) hjb
theorem ContainsI_ok (l : List Int) (s : Int) (hl : l.length ≤ 9223372036854775807) : FnS Try.prog 39 [.lst (l.map .i) l.length 1, .i s] (.bool (l.any fun n => decide (s = n))) [] := by
  refine FnS.val rfl (call_body r_slices_Contains_int_int k_slices_Contains_int_int (by simp) ?_)
  simp [c_slices_Contains_int_int]
  refine CallL_F (IndexI_ok l s hl) (bors_self _ (by simp [dats, LV.dat]; exact dats_map (fun _ => rfl) l)) ?_
  simp
  exact ixZ_any _ l
theorem place_ok (b x s d : Int) (h : inI d) : FnS Try.prog 30 [.agg [.i b, .i x, .i s, .i d]] (.bool (placeB b x s d)) [] := by
  refine FnS.val rfl (call_body r_inst_place k_inst_place (by simp) ?_)
  simp [c_inst_place]
  refine CallL_F (inst_register_ok b) (by simp) ?_
  rw [show decide (0 ≤ b ∧ b ≤ 15) = regB b from rfl]
  cases hb : regB b with
  | false => simp [placeB, hb]
  | true =>
  simp
  refine CallL_F (inst_small_ok d h) (by simp) ?_
  cases hd : smallB d with
  | false => simp [placeB, hb, hd]
  | true =>
  by_cases hx : x = -1
  · simp [hx, placeB, hb, hd]
  simp [hx]
  refine CallL_F (inst_register_ok x) (by simp) ?_
  rw [show decide (0 ≤ x ∧ x ≤ 15) = regB x from rfl]
  cases hrx : regB x with
  | false => simp [placeB, hb, hd, hx, hrx]
  | true =>
  by_cases h4 : x = 4
  · simp [placeB, hb, hd, hx, hrx, h4]
  simp [h4]
  refine CallL_F (ContainsI_ok [1, 2, 4, 8] s (by simp)) ⟨_, _, rfl, ⟨_, _, _, _, rfl, rfl, rfl⟩, bors_self _ rfl⟩ ?_
  simp [placeB, hb, hd, hx, hrx, h4, Bool.or_assoc]
theorem memEq (a b c d : Int) : eqA Try.prog false 23 (.agg [.int .i64 a, .int .i64 b, .int .i64 c, .int .i64 d]) (.agg [.int .i64 0, .int .i64 0, .int .i64 0, .int .i64 0]) = resG [some (eqI a 0), some (eqI b 0), some (eqI c 0), some (eqI d 0)] := by kernel_rfl
end Go.Proofs.Ytbcfbojigokplaa
