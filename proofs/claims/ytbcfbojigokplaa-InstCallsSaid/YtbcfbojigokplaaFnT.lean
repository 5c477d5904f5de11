/- Instructions: forms, names. -/
import Derived.Test.YtbcfbojigokplaaSvG4
import Derived.Test.YtbcfbojigokplaaProg
import Derived.KernelRfl
namespace Go.Proofs.Ytbcfbojigokplaa
open Go.Sv
set_option linter.unusedSimpArgs false
set_option maxRecDepth 10000

def c_inst_forms : LC :=
 (.seq (.ops [
   ⟨(some 0), none, .alloc [(.str []), (.i 0), (.i 0), (.i 0), (.str []), (.i 0), (.i 0), (.i 0), (.str []), (.i 0), (.i 0), (.i 0), (.str []), (.i 0), (.i 0), (.i 0), (.str []), (.i 0), (.i 0), (.i 0), (.str []), (.i 0), (.i 0), (.i 0), (.str []), (.i 0), (.i 0), (.i 0), (.str []), (.i 0), (.i 0), (.i 0), (.str []), (.i 0), (.i 0), (.i 0), (.str []), (.i 0), (.i 0), (.i 0), (.str []), (.i 0), (.i 0), (.i 0), (.str []), (.i 0), (.i 0), (.i 0), (.str []), (.i 0), (.i 0), (.i 0), (.str []), (.i 0), (.i 0), (.i 0), (.str []), (.i 0), (.i 0), (.i 0), (.str []), (.i 0), (.i 0), (.i 0), (.str []), (.i 0), (.i 0), (.i 0), (.str []), (.i 0), (.i 0), (.i 0), (.str []), (.i 0), (.i 0), (.i 0), (.str []), (.i 0), (.i 0), (.i 0), (.str []), (.i 0), (.i 0), (.i 0), (.str []), (.i 0), (.i 0), (.i 0), (.str []), (.i 0), (.i 0), (.i 0), (.str []), (.i 0), (.i 0), (.i 0), (.str []), (.i 0), (.i 0), (.i 0), (.str []), (.i 0), (.i 0), (.i 0), (.str []), (.i 0), (.i 0), (.i 0), (.str []), (.i 0), (.i 0), (.i 0), (.str []), (.i 0), (.i 0), (.i 0), (.str []), (.i 0), (.i 0), (.i 0), (.str []), (.i 0), (.i 0), (.i 0), (.str []), (.i 0), (.i 0), (.i 0), (.str []), (.i 0), (.i 0), (.i 0), (.str []), (.i 0), (.i 0), (.i 0)]⟩])
 (.seq (.ops [
    ⟨(some 1), none, .build [(.str []), (.i 0), (.i 0), (.i 0)] [(0, 1, (.c (.str [109, 111, 118]))), (1, 1, (.c (.i 131))), (2, 1, (.c (.i 0))), (3, 1, (.c (.i 0)))]⟩,
    ⟨(some 2), none, .build [(.str []), (.i 0), (.i 0), (.i 0)] [(0, 1, (.c (.str [109, 111, 118]))), (1, 1, (.c (.i 161))), (2, 1, (.c (.i 0))), (3, 1, (.c (.i 0)))]⟩,
    ⟨(some 3), none, .build [(.str []), (.i 0), (.i 0), (.i 0)] [(0, 1, (.c (.str [109, 111, 118]))), (1, 1, (.c (.i 137))), (2, 1, (.c (.i 0))), (3, 1, (.c (.i 0)))]⟩,
    ⟨(some 4), none, .build [(.str []), (.i 0), (.i 0), (.i 0)] [(0, 1, (.c (.str [109, 111, 118]))), (1, 1, (.c (.i 10))), (2, 1, (.c (.i 0))), (3, 1, (.c (.i 0)))]⟩,
    ⟨(some 5), none, .build [(.str []), (.i 0), (.i 0), (.i 0)] [(0, 1, (.c (.str [108, 101, 97]))), (1, 1, (.c (.i 137))), (2, 1, (.c (.i 0))), (3, 1, (.c (.i 0)))]⟩,
    ⟨(some 6), none, .build [(.str []), (.i 0), (.i 0), (.i 0)] [(0, 1, (.c (.str [97, 100, 100]))), (1, 1, (.c (.i 387))), (2, 1, (.c (.i 0))), (3, 1, (.c (.i 7)))]⟩,
    ⟨(some 7), none, .build [(.str []), (.i 0), (.i 0), (.i 0)] [(0, 1, (.c (.str [97, 100, 99]))), (1, 1, (.c (.i 387))), (2, 1, (.c (.i 1))), (3, 1, (.c (.i 7)))]⟩,
    ⟨(some 8), none, .build [(.str []), (.i 0), (.i 0), (.i 0)] [(0, 1, (.c (.str [115, 117, 98]))), (1, 1, (.c (.i 387))), (2, 1, (.c (.i 0))), (3, 1, (.c (.i 7)))]⟩,
    ⟨(some 9), none, .build [(.str []), (.i 0), (.i 0), (.i 0)] [(0, 1, (.c (.str [115, 98, 98]))), (1, 1, (.c (.i 387))), (2, 1, (.c (.i 1))), (3, 1, (.c (.i 7)))]⟩,
    ⟨(some 10), none, .build [(.str []), (.i 0), (.i 0), (.i 0)] [(0, 1, (.c (.str [97, 110, 100]))), (1, 1, (.c (.i 387))), (2, 1, (.c (.i 0))), (3, 1, (.c (.i 7)))]⟩,
    ⟨(some 11), none, .build [(.str []), (.i 0), (.i 0), (.i 0)] [(0, 1, (.c (.str [111, 114]))), (1, 1, (.c (.i 387))), (2, 1, (.c (.i 0))), (3, 1, (.c (.i 7)))]⟩,
    ⟨(some 12), none, .build [(.str []), (.i 0), (.i 0), (.i 0)] [(0, 1, (.c (.str [120, 111, 114]))), (1, 1, (.c (.i 387))), (2, 1, (.c (.i 0))), (3, 1, (.c (.i 7)))]⟩,
    ⟨(some 13), none, .build [(.str []), (.i 0), (.i 0), (.i 0)] [(0, 1, (.c (.str [99, 109, 112]))), (1, 1, (.c (.i 259))), (2, 1, (.c (.i 0))), (3, 1, (.c (.i 7)))]⟩,
    ⟨(some 14), none, .build [(.str []), (.i 0), (.i 0), (.i 0)] [(0, 1, (.c (.str [116, 101, 115, 116]))), (1, 1, (.c (.i 259))), (2, 1, (.c (.i 0))), (3, 1, (.c (.i 7)))]⟩,
    ⟨(some 15), none, .build [(.str []), (.i 0), (.i 0), (.i 0)] [(0, 1, (.c (.str [97, 100, 100]))), (1, 1, (.c (.i 401))), (2, 1, (.c (.i 0))), (3, 1, (.c (.i 7)))]⟩,
    ⟨(some 16), none, .build [(.str []), (.i 0), (.i 0), (.i 0)] [(0, 1, (.c (.str [97, 110, 100]))), (1, 1, (.c (.i 401))), (2, 1, (.c (.i 0))), (3, 1, (.c (.i 7)))]⟩,
    ⟨(some 17), none, .build [(.str []), (.i 0), (.i 0), (.i 0)] [(0, 1, (.c (.str [115, 117, 98]))), (1, 1, (.c (.i 401))), (2, 1, (.c (.i 0))), (3, 1, (.c (.i 7)))]⟩,
    ⟨(some 18), none, .build [(.str []), (.i 0), (.i 0), (.i 0)] [(0, 1, (.c (.str [99, 109, 112]))), (1, 1, (.c (.i 273))), (2, 1, (.c (.i 0))), (3, 1, (.c (.i 7)))]⟩,
    ⟨(some 19), none, .build [(.str []), (.i 0), (.i 0), (.i 0)] [(0, 1, (.c (.str [109, 117, 108, 120]))), (1, 1, (.c (.i 135))), (2, 1, (.c (.i 0))), (3, 1, (.c (.i 0)))]⟩,
    ⟨(some 20), none, .build [(.str []), (.i 0), (.i 0), (.i 0)] [(0, 1, (.c (.str [97, 100, 99, 120]))), (1, 1, (.c (.i 387))), (2, 1, (.c (.i 1))), (3, 1, (.c (.i 1)))]⟩,
    ⟨(some 21), none, .build [(.str []), (.i 0), (.i 0), (.i 0)] [(0, 1, (.c (.str [97, 100, 111, 120]))), (1, 1, (.c (.i 387))), (2, 1, (.c (.i 2))), (3, 1, (.c (.i 2)))]⟩,
    ⟨(some 22), none, .build [(.str []), (.i 0), (.i 0), (.i 0)] [(0, 1, (.c (.str [110, 101, 103]))), (1, 1, (.c (.i 385))), (2, 1, (.c (.i 0))), (3, 1, (.c (.i 7)))]⟩,
    ⟨(some 23), none, .build [(.str []), (.i 0), (.i 0), (.i 0)] [(0, 1, (.c (.str [110, 111, 116]))), (1, 1, (.c (.i 385))), (2, 1, (.c (.i 0))), (3, 1, (.c (.i 0)))]⟩,
    ⟨(some 24), none, .build [(.str []), (.i 0), (.i 0), (.i 0)] [(0, 1, (.c (.str [115, 104, 108]))), (1, 1, (.c (.i 449))), (2, 1, (.c (.i 0))), (3, 1, (.c (.i 5)))]⟩,
    ⟨(some 25), none, .build [(.str []), (.i 0), (.i 0), (.i 0)] [(0, 1, (.c (.str [115, 104, 114]))), (1, 1, (.c (.i 449))), (2, 1, (.c (.i 0))), (3, 1, (.c (.i 5)))]⟩,
    ⟨(some 26), none, .build [(.str []), (.i 0), (.i 0), (.i 0)] [(0, 1, (.c (.str [99, 109, 111, 118, 99]))), (1, 1, (.c (.i 387))), (2, 1, (.c (.i 1))), (3, 1, (.c (.i 0)))]⟩,
    ⟨(some 27), none, .build [(.str []), (.i 0), (.i 0), (.i 0)] [(0, 1, (.c (.str [99, 109, 111, 118, 110, 122]))), (1, 1, (.c (.i 387))), (2, 1, (.c (.i 4))), (3, 1, (.c (.i 0)))]⟩,
    ⟨(some 28), none, .build [(.str []), (.i 0), (.i 0), (.i 0)] [(0, 1, (.c (.str [112, 117, 115, 104]))), (1, 1, (.c (.i 514))), (2, 1, (.c (.i 0))), (3, 1, (.c (.i 0)))]⟩,
    ⟨(some 29), none, .build [(.str []), (.i 0), (.i 0), (.i 0)] [(0, 1, (.c (.str [112, 111, 112]))), (1, 1, (.c (.i 641))), (2, 1, (.c (.i 0))), (3, 1, (.c (.i 0)))]⟩,
    ⟨(some 30), none, .build [(.str []), (.i 0), (.i 0), (.i 0)] [(0, 1, (.c (.str [106, 109, 112]))), (1, 1, (.c (.i 16))), (2, 1, (.c (.i 0))), (3, 1, (.c (.i 0)))]⟩,
    ⟨(some 31), none, .build [(.str []), (.i 0), (.i 0), (.i 0)] [(0, 1, (.c (.str [106, 110, 122]))), (1, 1, (.c (.i 16))), (2, 1, (.c (.i 4))), (3, 1, (.c (.i 0)))]⟩,
    ⟨(some 32), none, .build [(.str []), (.i 0), (.i 0), (.i 0)] [(0, 1, (.c (.str [106, 99]))), (1, 1, (.c (.i 16))), (2, 1, (.c (.i 1))), (3, 1, (.c (.i 0)))]⟩,
    ⟨(some 33), none, .build [(.str []), (.i 0), (.i 0), (.i 0)] [(0, 1, (.c (.str [114, 101, 116]))), (1, 1, (.c (.i 512))), (2, 1, (.c (.i 0))), (3, 1, (.c (.i 0)))]⟩,
    ⟨(some 34), none, .build [(.str []), (.i 0), (.i 0), (.i 0), (.str []), (.i 0), (.i 0), (.i 0), (.str []), (.i 0), (.i 0), (.i 0), (.str []), (.i 0), (.i 0), (.i 0), (.str []), (.i 0), (.i 0), (.i 0), (.str []), (.i 0), (.i 0), (.i 0), (.str []), (.i 0), (.i 0), (.i 0), (.str []), (.i 0), (.i 0), (.i 0), (.str []), (.i 0), (.i 0), (.i 0), (.str []), (.i 0), (.i 0), (.i 0), (.str []), (.i 0), (.i 0), (.i 0), (.str []), (.i 0), (.i 0), (.i 0), (.str []), (.i 0), (.i 0), (.i 0), (.str []), (.i 0), (.i 0), (.i 0), (.str []), (.i 0), (.i 0), (.i 0), (.str []), (.i 0), (.i 0), (.i 0), (.str []), (.i 0), (.i 0), (.i 0), (.str []), (.i 0), (.i 0), (.i 0), (.str []), (.i 0), (.i 0), (.i 0), (.str []), (.i 0), (.i 0), (.i 0), (.str []), (.i 0), (.i 0), (.i 0), (.str []), (.i 0), (.i 0), (.i 0), (.str []), (.i 0), (.i 0), (.i 0), (.str []), (.i 0), (.i 0), (.i 0), (.str []), (.i 0), (.i 0), (.i 0), (.str []), (.i 0), (.i 0), (.i 0), (.str []), (.i 0), (.i 0), (.i 0), (.str []), (.i 0), (.i 0), (.i 0), (.str []), (.i 0), (.i 0), (.i 0), (.str []), (.i 0), (.i 0), (.i 0), (.str []), (.i 0), (.i 0), (.i 0), (.str []), (.i 0), (.i 0), (.i 0), (.str []), (.i 0), (.i 0), (.i 0), (.str []), (.i 0), (.i 0), (.i 0)] [(4, 4, (.t 1)), (8, 4, (.t 2)), (12, 4, (.t 3)), (16, 4, (.t 4)), (20, 4, (.t 5)), (24, 4, (.t 6)), (28, 4, (.t 7)), (32, 4, (.t 8)), (36, 4, (.t 9)), (40, 4, (.t 10)), (44, 4, (.t 11)), (48, 4, (.t 12)), (52, 4, (.t 13)), (56, 4, (.t 14)), (60, 4, (.t 15)), (64, 4, (.t 16)), (68, 4, (.t 17)), (72, 4, (.t 18)), (76, 4, (.t 19)), (80, 4, (.t 20)), (84, 4, (.t 21)), (88, 4, (.t 22)), (92, 4, (.t 23)), (96, 4, (.t 24)), (100, 4, (.t 25)), (104, 4, (.t 26)), (108, 4, (.t 27)), (112, 4, (.t 28)), (116, 4, (.t 29)), (120, 4, (.t 30)), (124, 4, (.t 31)), (128, 4, (.t 32)), (132, 4, (.t 33))]⟩,
    ⟨none, none, .store 136 (.t 0) (.t 34)⟩])
  .ret))
theorem r_inst_forms : resFn Try.prog 37 = some ⟨35, c_inst_forms.r, [.cellN 0 136]⟩ := by kernel_rfl
theorem k_inst_forms : c_inst_forms.ok = true := by kernel_rfl

def c_inst_of : LC :=
 (.seq (.ops [
   ⟨(some 2), none, .alloc [(.str []), (.i 0), (.i 0), (.i 0)]⟩])
 (.seq (.ops [
    ⟨(some 4), none, .callV (.c (.fn (.func 37) [] [])) []⟩,
    ⟨(some 3), none, .alloc [(.str []), (.i 0), (.i 0), (.i 0), (.str []), (.i 0), (.i 0), (.i 0), (.str []), (.i 0), (.i 0), (.i 0), (.str []), (.i 0), (.i 0), (.i 0), (.str []), (.i 0), (.i 0), (.i 0), (.str []), (.i 0), (.i 0), (.i 0), (.str []), (.i 0), (.i 0), (.i 0), (.str []), (.i 0), (.i 0), (.i 0), (.str []), (.i 0), (.i 0), (.i 0), (.str []), (.i 0), (.i 0), (.i 0), (.str []), (.i 0), (.i 0), (.i 0), (.str []), (.i 0), (.i 0), (.i 0), (.str []), (.i 0), (.i 0), (.i 0), (.str []), (.i 0), (.i 0), (.i 0), (.str []), (.i 0), (.i 0), (.i 0), (.str []), (.i 0), (.i 0), (.i 0), (.str []), (.i 0), (.i 0), (.i 0), (.str []), (.i 0), (.i 0), (.i 0), (.str []), (.i 0), (.i 0), (.i 0), (.str []), (.i 0), (.i 0), (.i 0), (.str []), (.i 0), (.i 0), (.i 0), (.str []), (.i 0), (.i 0), (.i 0), (.str []), (.i 0), (.i 0), (.i 0), (.str []), (.i 0), (.i 0), (.i 0), (.str []), (.i 0), (.i 0), (.i 0), (.str []), (.i 0), (.i 0), (.i 0), (.str []), (.i 0), (.i 0), (.i 0), (.str []), (.i 0), (.i 0), (.i 0), (.str []), (.i 0), (.i 0), (.i 0), (.str []), (.i 0), (.i 0), (.i 0), (.str []), (.i 0), (.i 0), (.i 0), (.str []), (.i 0), (.i 0), (.i 0), (.str []), (.i 0), (.i 0), (.i 0), (.str []), (.i 0), (.i 0), (.i 0)]⟩,
    ⟨none, none, .store 136 (.t 3) (.t 4)⟩])
  (.seq (.seq (.ops [
      ⟨(some 5), none, .move (.t 0)⟩,
      ⟨(some 6), none, .bin .lss true 3 (.t 5) (.c (.i 0))⟩,
      ⟨(some 7), none, .move (.t 6)⟩,
      ⟨(some 8), (some (7, false)), .move (.t 0)⟩,
      ⟨(some 9), (some (7, false)), .bin .geq true 3 (.t 8) (.c (.i 34))⟩,
      ⟨(some 10), none, .pick (.t 7) (.c (.bool true)) (.t 9)⟩])
    (.cond (.t 10)
     (.seq (.ops [
        ⟨(some 11), none, .build [(.str []), (.i 0), (.i 0), (.i 0)] []⟩,
        ⟨none, none, .store 4 (.t 2) (.t 11)⟩])
      .ret)
     .skip))
   (.seq (.ops [
      ⟨(some 12), none, .move (.t 0)⟩,
      ⟨(some 13), none, .ixAddrArr 34 4 (.t 3) (.t 12)⟩,
      ⟨(some 14), none, .loadN 4 (.t 13)⟩,
      ⟨none, none, .store 4 (.t 2) (.t 14)⟩])
    .ret))))
theorem r_inst_of : resFn Try.prog 26 = some ⟨15, c_inst_of.r, [.cellN 2 4]⟩ := by kernel_rfl
theorem k_inst_of : c_inst_of.ok = true := by kernel_rfl

def c_inst_Name : LC :=
 (.seq (.ops [
   ⟨(some 2), none, .move (.c (.str []))⟩])
 (.seq (.ops [
    ⟨(some 3), none, .move (.t 0)⟩,
    ⟨(some 4), none, .callV (.c (.fn (.func 26) [] [])) [(.t 3)]⟩,
    ⟨(some 5), none, .field false 1 0 (.t 4)⟩,
    ⟨(some 2), none, .move (.t 5)⟩])
  .ret))
theorem r_inst_Name : resFn Try.prog 14 = some ⟨6, c_inst_Name.r, [.tmp 2]⟩ := by kernel_rfl
theorem k_inst_Name : c_inst_Name.ok = true := by kernel_rfl

def c_inst_register : LC :=
 (.seq (.ops [
   ⟨(some 2), none, .move (.c (.bool false))⟩])
 (.seq (.ops [
    ⟨(some 3), none, .move (.t 0)⟩,
    ⟨(some 4), none, .bin .geq true 3 (.t 3) (.c (.i 0))⟩,
    ⟨(some 5), none, .move (.t 4)⟩,
    ⟨(some 6), (some (5, true)), .move (.t 0)⟩,
    ⟨(some 7), (some (5, true)), .bin .leq true 3 (.t 6) (.c (.i 15))⟩,
    ⟨(some 8), none, .pick (.t 5) (.t 7) (.c (.bool false))⟩,
    ⟨(some 2), none, .move (.t 8)⟩])
  .ret))
theorem r_inst_register : resFn Try.prog 29 = some ⟨9, c_inst_register.r, [.tmp 2]⟩ := by kernel_rfl
theorem k_inst_register : c_inst_register.ok = true := by kernel_rfl

def c_inst_Register : LC :=
 (.seq (.ops [
   ⟨(some 2), none, .move (.c (.str []))⟩])
 (.seq (.seq (.ops [
     ⟨(some 3), none, .move (.t 0)⟩,
     ⟨(some 4), none, .callV (.c (.fn (.func 29) [] [])) [(.t 3)]⟩,
     ⟨(some 5), none, .un .not (.t 4)⟩])
   (.cond (.t 5)
    (.seq (.ops [
       ⟨(some 2), none, .move (.c (.str []))⟩])
     .ret)
    .skip))
  (.seq (.ops [
     ⟨(some 6), none, .build [(.str []), (.str []), (.str []), (.str []), (.str []), (.str []), (.str []), (.str []), (.str []), (.str []), (.str []), (.str []), (.str []), (.str []), (.str []), (.str [])] [(0, 1, (.c (.str [114, 97, 120]))), (1, 1, (.c (.str [114, 99, 120]))), (2, 1, (.c (.str [114, 100, 120]))), (3, 1, (.c (.str [114, 98, 120]))), (4, 1, (.c (.str [114, 115, 112]))), (5, 1, (.c (.str [114, 98, 112]))), (6, 1, (.c (.str [114, 115, 105]))), (7, 1, (.c (.str [114, 100, 105]))), (8, 1, (.c (.str [114, 56]))), (9, 1, (.c (.str [114, 57]))), (10, 1, (.c (.str [114, 49, 48]))), (11, 1, (.c (.str [114, 49, 49]))), (12, 1, (.c (.str [114, 49, 50]))), (13, 1, (.c (.str [114, 49, 51]))), (14, 1, (.c (.str [114, 49, 52]))), (15, 1, (.c (.str [114, 49, 53])))]⟩,
     ⟨(some 7), none, .move (.t 0)⟩,
     ⟨(some 8), none, .ixArr false 16 1 (.t 6) (.t 7)⟩,
     ⟨(some 2), none, .move (.t 8)⟩])
   .ret)))
theorem r_inst_Register : resFn Try.prog 15 = some ⟨9, c_inst_Register.r, [.tmp 2]⟩ := by kernel_rfl
theorem k_inst_Register : c_inst_Register.ok = true := by kernel_rfl

def c_inst_form_has : LC :=
 (.seq (.ops [
   ⟨(some 2), none, .box (.t 0)⟩,
   ⟨(some 4), none, .move (.c (.bool false))⟩])
 (.seq (.ops [
    ⟨(some 5), none, .fieldAddr 1 (.t 2)⟩,
    ⟨(some 6), none, .load1 (.t 5)⟩,
    ⟨(some 7), none, .move (.t 1)⟩,
    ⟨(some 8), none, .bin .and false 3 (.t 6) (.t 7)⟩,
    ⟨(some 9), none, .bin .neq true 3 (.t 8) (.c (.i 0))⟩,
    ⟨(some 4), none, .move (.t 9)⟩])
  .ret))
theorem r_inst_form_has : resFn Try.prog 28 = some ⟨10, c_inst_form_has.r, [.tmp 4]⟩ := by kernel_rfl
theorem k_inst_form_has : c_inst_form_has.ok = true := by kernel_rfl

def c_ref05_register : LC :=
 (.seq (.ops [
   ⟨(some 2), none, .move (.c (.bool false))⟩])
 (.seq (.ops [
    ⟨(some 3), none, .move (.t 0)⟩,
    ⟨(some 4), none, .bin .geq true 3 (.t 3) (.c (.i 0))⟩,
    ⟨(some 5), none, .move (.t 4)⟩,
    ⟨(some 6), (some (5, true)), .move (.t 0)⟩,
    ⟨(some 7), (some (5, true)), .bin .leq true 3 (.t 6) (.c (.i 15))⟩,
    ⟨(some 8), none, .pick (.t 5) (.t 7) (.c (.bool false))⟩,
    ⟨(some 2), none, .move (.t 8)⟩])
  .ret))
theorem r_ref05_register : resFn Try.prog 33 = some ⟨9, c_ref05_register.r, [.tmp 2]⟩ := by kernel_rfl
theorem k_ref05_register : c_ref05_register.ok = true := by kernel_rfl

def c_ref05_Register : LC :=
 (.seq (.ops [
   ⟨(some 2), none, .move (.c (.str []))⟩])
 (.seq (.seq (.ops [
     ⟨(some 3), none, .move (.t 0)⟩,
     ⟨(some 4), none, .callV (.c (.fn (.func 33) [] [])) [(.t 3)]⟩,
     ⟨(some 5), none, .un .not (.t 4)⟩])
   (.cond (.t 5)
    (.seq (.ops [
       ⟨(some 2), none, .move (.c (.str []))⟩])
     .ret)
    .skip))
  (.seq (.ops [
     ⟨(some 6), none, .buildSl 1 16 [(.str []), (.str []), (.str []), (.str []), (.str []), (.str []), (.str []), (.str []), (.str []), (.str []), (.str []), (.str []), (.str []), (.str []), (.str []), (.str [])] [(0, 1, (.c (.str [114, 97, 120]))), (1, 1, (.c (.str [114, 99, 120]))), (2, 1, (.c (.str [114, 100, 120]))), (3, 1, (.c (.str [114, 98, 120]))), (4, 1, (.c (.str [114, 115, 112]))), (5, 1, (.c (.str [114, 98, 112]))), (6, 1, (.c (.str [114, 115, 105]))), (7, 1, (.c (.str [114, 100, 105]))), (8, 1, (.c (.str [114, 56]))), (9, 1, (.c (.str [114, 57]))), (10, 1, (.c (.str [114, 49, 48]))), (11, 1, (.c (.str [114, 49, 49]))), (12, 1, (.c (.str [114, 49, 50]))), (13, 1, (.c (.str [114, 49, 51]))), (14, 1, (.c (.str [114, 49, 52]))), (15, 1, (.c (.str [114, 49, 53])))]⟩,
     ⟨(some 7), none, .move (.t 0)⟩,
     ⟨(some 8), none, .ixAddr 1 (.t 6) (.t 7)⟩,
     ⟨(some 9), none, .load1 (.t 8)⟩,
     ⟨(some 2), none, .move (.t 9)⟩])
   .ret)))
theorem r_ref05_Register : resFn Try.prog 25 = some ⟨10, c_ref05_Register.r, [.tmp 2]⟩ := by kernel_rfl
theorem k_ref05_Register : c_ref05_Register.ok = true := by kernel_rfl



theorem mixedP : Try.prog.follows .mixedOrders = true := by kernel_rfl
theorem law05_lives_run : runA Try.prog noO 10000 8 = true := by kernel_rfl
theorem law05_lives_ok : FnS Try.prog 8 [] (.bool true) [] := FnS.lives ⟨by kernel_rfl, by kernel_rfl⟩ (by kernel_rfl) (runA_lives mixedP law05_lives_run)

theorem inst_forms_ok : FnS Try.prog 37 [] (.agg (FT.flatMap ftC)) [] := by
  refine FnS.val rfl (call_body r_inst_forms k_inst_forms (by simp) ?_)
  simp [c_inst_forms, FT, ftC]
theorem forms_len : (FT.flatMap ftC).length = 136 := rfl
theorem forms_at (n : Nat) (h : n < 34) : ((FT.flatMap ftC).drop (n * 4)).take 4 = ftC (FT.getD n ([], 0, 0, 0)) := by
  have key : ∀ (l : List (List UInt8 × Nat × Nat × Nat)) (n : Nat), n < l.length → ((l.flatMap ftC).drop (n * 4)).take 4 = ftC (l.getD n ([], 0, 0, 0)) := by
    intro l
    induction l with
    | nil => intro n h; simp at h
    | cons e l ih =>
      intro n h
      have h4 : (ftC e).length = 4 := rfl
      cases n with
      | zero => simp [ftC]
      | succ n =>
        rw [List.flatMap_cons, show (n + 1) * 4 = 4 + n * 4 by omega, ← List.drop_drop, ← h4, List.drop_left, h4, ih n (by simpa using h)]
        simp
  exact key FT n h
theorem inst_of_ok (op : Int) : FnS Try.prog 26 [.i op] (.agg (ftC (ftOf op))) [] := by
  refine FnS.val rfl (call_body r_inst_of k_inst_of (by simp) ?_)
  simp [c_inst_of]
  refine CallL_F inst_forms_ok (by simp) ?_
  have hl := forms_len
  have ha := forms_at
  have hfr : frVs [] (FT.flatMap ftC) = FT.flatMap ftC := by simp [FT, ftC]
  generalize FT.flatMap ftC = FC at *
  by_cases h0 : op < 0
  · have e : ftOf op = ([], 0, 0, 0) := by simp [ftOf, ix_out (show ¬ (0 ≤ op ∧ op < 34) by omega), FT]
    have g1 : ¬ 0 ≤ op := by omega
    simp [hfr, hl, h0, g1, e, ftC]
  by_cases h1 : 34 ≤ op
  · have e : ftOf op = ([], 0, 0, 0) := by simp [ftOf, ix_out (show ¬ (0 ≤ op ∧ op < 34) by omega), FT]
    have g1 : ¬ op < 34 := by omega
    simp [hfr, hl, h0, h1, g1, e, ftC]
  have h2 : 0 ≤ op := by omega
  have h3 : op < 34 := by omega
  have e : ftOf op = FT.getD op.toNat ([], 0, 0, 0) := by simp only [ftOf]; rw [ix_in h2 h3]
  have hn : op.toNat < 34 := by omega
  have hd := ha op.toNat hn
  have hb : op.toNat * 4 + 4 ≤ 136 := by omega
  have hm : min 4 (136 - op.toNat * 4) = 4 := by omega
  have hz : ∀ l : List LV, List.take 4 (List.take 4 (List.drop (op.toNat * 4) FC) ++ l) = List.take 4 (List.drop (op.toNat * 4) FC) := fun l => by
    rw [List.take_append_of_le_length (by simp; omega), List.take_take]
    simp
  simp [hfr, h0, h1, h2, h3, hl, hb, hm]
  rw [hd, e]
  simp [ftC]
theorem inst_Name_ok (op : Int) : FnS Try.prog 14 [.i op] (.str (ftOf op).1) [] := by
  refine FnS.val rfl (call_body r_inst_Name k_inst_Name (by simp) ?_)
  simp [c_inst_Name]
  refine CallL_F (inst_of_ok op) (by simp) ?_
  simp [ftC]
theorem inst_register_ok (r : Int) : FnS Try.prog 29 [.i r] (.bool (decide (0 ≤ r ∧ r ≤ 15))) [] := by
  refine FnS.val rfl (call_body r_inst_register k_inst_register (by simp) ?_)
  by_cases h0 : 0 ≤ r <;> by_cases h1 : r ≤ 15 <;> simp [c_inst_register, h0, h1]
theorem ref05_register_ok (r : Int) : FnS Try.prog 33 [.i r] (.bool (decide (0 ≤ r ∧ r ≤ 15))) [] := by
  refine FnS.val rfl (call_body r_ref05_register k_ref05_register (by simp) ?_)
  by_cases h0 : 0 ≤ r <;> by_cases h1 : r ≤ 15 <;> simp [c_ref05_register, h0, h1]
theorem rg_cells (k : Nat) (h : k < 16) : (RG.map LV.str)[k]? = some (.str (RG.getD k [])) := by
  have : k < RG.length := h
  simp [this]
theorem inst_Register_ok (r : Int) : FnS Try.prog 15 [.i r] (.str (rgOf r)) [] := by
  refine FnS.val rfl (call_body r_inst_Register k_inst_Register (by simp) ?_)
  simp [c_inst_Register]
  refine CallL_F (inst_register_ok r) (by simp) ?_
  by_cases h : 0 ≤ r ∧ r ≤ 15
  · rw [decide_eq_true h]
    have h16 : r < 16 := by omega
    have e : rgOf r = RG.getD r.toNat [] := by simp only [rgOf]; rw [ix_in h.1 h16]
    simp [h.1, h16]
    exact ⟨_, rg_cells r.toNat (by omega), by simp [e]⟩
  · rw [decide_eq_false h]
    have e : rgOf r = [] := by simp [rgOf, ix_out (show ¬ (0 ≤ r ∧ r < 16) by omega), RG]
    simp [e]
theorem ref05_Register_ok (r : Int) : FnS Try.prog 25 [.i r] (.str (rgOf r)) [] := by
  refine FnS.val rfl (call_body r_ref05_Register k_ref05_Register (by simp) ?_)
  simp [c_ref05_Register]
  refine CallL_F (ref05_register_ok r) (by simp) ?_
  by_cases h : 0 ≤ r ∧ r ≤ 15
  · rw [decide_eq_true h]
    have h16 : r < 16 := by omega
    have e : rgOf r = RG.getD r.toNat [] := by simp only [rgOf]; rw [ix_in h.1 h16]
    simp [h.1, h16]
    exact ⟨_, rg_cells r.toNat (by omega), by simp [e]⟩
  · rw [decide_eq_false h]
    have e : rgOf r = [] := by simp [rgOf, ix_out (show ¬ (0 ≤ r ∧ r < 16) by omega), RG]
    simp [e]
theorem inst_form_has_ok (e : List UInt8 × Nat × Nat × Nat) (w : Nat) (he : e.2.1 < 1000000) (hw : w < 1000000) : FnS Try.prog 28 [.agg (ftC e), .i w] (.bool (decide (e.2.1 &&& w ≠ 0))) [] := by
  refine FnS.val rfl (call_body r_inst_form_has k_inst_form_has (by simp) ?_)
  simp [c_inst_form_has, ftC]
  omega
end Go.Proofs.Ytbcfbojigokplaa
