/- Works: what an operation's code needs. -/
import Derived.Test.YtknbplplhbfggaaFnK3
import Derived.Test.YtknbplplhbfggaaSvG4
namespace Go.Proofs.Ytknbplplhbfggaa
open Go.Sv
set_option linter.unusedSimpArgs false
set_option maxRecDepth 10000

def c_expand_given : LC :=
 (.seq (.ops [
   ⟨(some 1), none, .box (.t 0)⟩,
   ⟨(some 2), none, .move (.c (.bool false))⟩])
 (.seq (.ops [
    ⟨(some 3), none, .fieldAddr 2 (.t 1)⟩,
    ⟨(some 4), none, .load1 (.t 3)⟩,
    ⟨(some 5), none, .bin .eql true 3 (.t 4) (.c (.i 1))⟩,
    ⟨(some 6), none, .move (.t 5)⟩,
    ⟨(some 7), (some (6, false)), .fieldAddr 2 (.t 1)⟩,
    ⟨(some 8), (some (6, false)), .load1 (.t 7)⟩,
    ⟨(some 9), (some (6, false)), .bin .eql true 3 (.t 8) (.c (.i 2))⟩,
    ⟨(some 10), none, .pick (.t 6) (.c (.bool true)) (.t 9)⟩,
    ⟨(some 2), none, .move (.t 10)⟩])
  .ret))
theorem r_expand_given : resFn Try.prog 59 = some ⟨11, c_expand_given.r, [.tmp 2]⟩ := by kernel_rfl
theorem k_expand_given : c_expand_given.ok = true := by kernel_rfl

def c_expand_kernel : LC :=
 (.seq (.ops [
   ⟨(some 4), none, .alloc [.nilSl, .nilSl, .nilSl]⟩])
 (.seq (.ops [
    ⟨(some 8), none, .move (.t 0)⟩,
    ⟨(some 9), none, .build [.nilSl, .nilSl, .nilSl] [(0, 1, (.t 8))]⟩,
    ⟨(some 5), none, .alloc [.nilSl, .nilSl, .nilSl]⟩,
    ⟨none, none, .store 3 (.t 5) (.t 9)⟩])
  (.seq (.seq (.ops [
      ⟨(some 10), none, .move (.t 0)⟩,
      ⟨(some 11), none, .lenSl (.t 10)⟩,
      ⟨(some 12), none, .move (.c (.i 0))⟩])
    (.block 0 (.loop (.seq (.ops [
         ⟨(some 13), none, .bin .lss false 3 (.t 12) (.t 11)⟩])
       (.seq (.cond (.t 13)
         .skip
         (.exit 0))
        (.seq (.block 1 (.seq (.ops [
             ⟨(some 14), none, .move (.t 12)⟩,
             ⟨(some 15), none, .ixAddr 3 (.t 10) (.t 12)⟩,
             ⟨(some 16), none, .loadN 3 (.t 15)⟩,
             ⟨(some 7), none, .alloc [(.i 0), (.bool false), (.i 0)]⟩,
             ⟨(some 6), none, .move (.t 14)⟩,
             ⟨none, none, .store 3 (.t 7) (.t 16)⟩])
           (.seq (.ops [
              ⟨(some 17), none, .loadN 3 (.t 7)⟩,
              ⟨(some 18), none, .callV (.c (.fn (.func 59) [] [])) [(.t 17)]⟩,
              ⟨(some 19), none, .un .not (.t 18)⟩])
            (.cond (.t 19)
             (.ops [
               ⟨(some 20), none, .fieldAddr 1 (.t 5)⟩,
               ⟨(some 21), none, .load1 (.t 20)⟩,
               ⟨(some 22), none, .move (.t 6)⟩,
               ⟨(some 23), none, .build [(.i 0), (.i 0), (.i 0), (.i 0), (.i 0), (.i 0), (.u 0)] [(0, 1, (.c (.i 1))), (1, 1, (.t 22)), (2, 1, (.c (.i (-1)))), (3, 1, (.c (.i (-1)))), (4, 1, (.c (.i (-1)))), (5, 1, (.c (.i (-1))))]⟩,
               ⟨(some 24), none, .buildSl 7 1 [(.i 0), (.i 0), (.i 0), (.i 0), (.i 0), (.i 0), (.u 0)] [(0, 7, (.t 23))]⟩,
               ⟨(some 25), none, .appG 7 (.t 21) (.t 24)⟩,
               ⟨(some 26), none, .fieldAddr 1 (.t 5)⟩,
               ⟨none, none, .store 1 (.t 26) (.t 25)⟩])
             .skip))))
         (.ops [
           ⟨(some 27), none, .bin .add true 3 (.t 12) (.c (.i 1))⟩,
           ⟨(some 12), none, .move (.t 27)⟩])))))))
   (.seq (.ops [
      ⟨(some 28), none, .fieldAddr 1 (.t 5)⟩,
      ⟨(some 29), none, .load1 (.t 28)⟩,
      ⟨(some 30), none, .move (.t 1)⟩,
      ⟨(some 31), none, .appG 7 (.t 29) (.t 30)⟩,
      ⟨(some 32), none, .fieldAddr 1 (.t 5)⟩,
      ⟨none, none, .store 1 (.t 32) (.t 31)⟩])
    (.seq (.ops [
       ⟨(some 33), none, .loadN 3 (.t 5)⟩,
       ⟨none, none, .store 3 (.t 4) (.t 33)⟩])
     .ret)))))
theorem r_expand_kernel : resFn Try.prog 45 = some ⟨34, c_expand_kernel.r, [.cellN 4 3]⟩ := by kernel_rfl
theorem k_expand_kernel : c_expand_kernel.ok = true := by kernel_rfl

def c_expand_May : LC :=
 (.seq (.ops [
   ⟨(some 3), none, .box (.t 1)⟩,
   ⟨(some 4), none, .move (.c (.bool false))⟩])
 (.seq (.seq (.ops [
     ⟨(some 5), none, .fieldAddr 0 (.t 3)⟩,
     ⟨(some 6), none, .load1 (.t 5)⟩,
     ⟨(some 7), none, .bin .eql true 3 (.t 6) (.c (.i 15))⟩,
     ⟨(some 8), none, .move (.t 7)⟩,
     ⟨(some 9), (some (8, false)), .fieldAddr 0 (.t 3)⟩,
     ⟨(some 10), (some (8, false)), .load1 (.t 9)⟩,
     ⟨(some 11), (some (8, false)), .bin .eql true 3 (.t 10) (.c (.i 16))⟩,
     ⟨(some 12), none, .pick (.t 8) (.c (.bool true)) (.t 11)⟩])
   (.cond (.t 12)
    (.seq (.ops [
       ⟨(some 4), none, .move (.c (.bool false))⟩])
     .ret)
    .skip))
  (.seq (.ops [
     ⟨(some 13), none, .move (.t 0)⟩,
     ⟨(some 14), none, .loadN 7 (.t 3)⟩,
     ⟨(some 15), none, .buildSl 7 1 [(.i 0), (.i 0), (.i 0), (.i 0), (.i 0), (.i 0), (.u 0)] [(0, 7, (.t 14))]⟩,
     ⟨(some 16), none, .callV (.c (.fn (.func 45) [] [])) [(.t 13), (.t 15)]⟩,
     ⟨(some 17), none, .callV (.c (.fn (.func 21) [] [])) [(.t 16)]⟩,
     ⟨(some 18), none, .bin .eql true 28 (.t 17) (.c (.i 0))⟩,
     ⟨(some 4), none, .move (.t 18)⟩])
   .ret)))
theorem r_expand_May : resFn Try.prog 24 = some ⟨19, c_expand_May.r, [.tmp 4]⟩ := by kernel_rfl
theorem k_expand_May : c_expand_May.ok = true := by kernel_rfl

def c_expand_Has : LC :=
 (.seq (.ops [
   ⟨(some 2), none, .move (.c (.bool false))⟩])
 (.seq (.ops [
    ⟨(some 3), none, .move (.t 0)⟩,
    ⟨(some 4), none, .bin .geq true 3 (.t 3) (.c (.i 1))⟩,
    ⟨(some 5), none, .move (.t 4)⟩,
    ⟨(some 6), (some (5, true)), .move (.t 0)⟩,
    ⟨(some 7), (some (5, true)), .bin .leq true 3 (.t 6) (.c (.i 11))⟩,
    ⟨(some 8), none, .pick (.t 5) (.t 7) (.c (.bool false))⟩,
    ⟨(some 9), none, .move (.t 8)⟩,
    ⟨(some 10), (some (9, false)), .move (.t 0)⟩,
    ⟨(some 11), (some (9, false)), .bin .eql true 3 (.t 10) (.c (.i 14))⟩,
    ⟨(some 12), none, .pick (.t 9) (.c (.bool true)) (.t 11)⟩,
    ⟨(some 2), none, .move (.t 12)⟩])
  .ret))
theorem r_expand_Has : resFn Try.prog 23 = some ⟨13, c_expand_Has.r, [.tmp 2]⟩ := by kernel_rfl
theorem k_expand_Has : c_expand_Has.ok = true := by kernel_rfl

def c_expand_halvesWork : LC :=
 (.seq (.ops [
   ⟨(some 2), none, .move (.c (.i 0))⟩])
 (.seq (.ops [
    ⟨(some 4), none, .move (.t 0)⟩,
    ⟨(some 5), none, .move (.t 0)⟩,
    ⟨(some 6), none, .bin .quo true 3 (.t 5) (.c (.i 2))⟩,
    ⟨(some 7), none, .bin .sub false 3 (.t 4) (.t 6)⟩,
    ⟨(some 3), none, .move (.t 7)⟩])
  (.seq (.ops [
     ⟨(some 8), none, .move (.t 0)⟩,
     ⟨(some 9), none, .bin .mul true 3 (.c (.i 2)) (.t 8)⟩,
     ⟨(some 10), none, .move (.t 3)⟩,
     ⟨(some 11), none, .bin .add true 3 (.t 10) (.c (.i 1))⟩,
     ⟨(some 12), none, .bin .mul true 3 (.c (.i 4)) (.t 11)⟩,
     ⟨(some 13), none, .bin .add false 3 (.t 9) (.t 12)⟩,
     ⟨(some 2), none, .move (.t 13)⟩])
   .ret)))
theorem r_expand_halvesWork : resFn Try.prog 25 = some ⟨14, c_expand_halvesWork.r, [.tmp 2]⟩ := by kernel_rfl
theorem k_expand_halvesWork : c_expand_halvesWork.ok = true := by kernel_rfl

def c_expand_Work : LC :=
 (.seq (.ops [
   ⟨(some 3), none, .box (.t 1)⟩,
   ⟨(some 4), none, .move (.c (.i 0))⟩])
 (.seq (.seq (.ops [
     ⟨(some 5), none, .fieldAddr 0 (.t 3)⟩,
     ⟨(some 6), none, .load1 (.t 5)⟩,
     ⟨(some 7), none, .callV (.c (.fn (.func 23) [] [])) [(.t 6)]⟩,
     ⟨(some 8), none, .un .not (.t 7)⟩,
     ⟨(some 9), none, .move (.t 8)⟩,
     ⟨(some 10), (some (9, false)), .move (.t 0)⟩,
     ⟨(some 11), (some (9, false)), .loadN 7 (.t 3)⟩,
     ⟨(some 12), (some (9, false)), .callV (.c (.fn (.func 24) [] [])) [(.t 10), (.t 11)]⟩,
     ⟨(some 13), (some (9, false)), .un .not (.t 12)⟩,
     ⟨(some 14), none, .pick (.t 9) (.c (.bool true)) (.t 13)⟩])
   (.cond (.t 14)
    (.seq (.ops [
       ⟨(some 4), none, .move (.c (.i 0))⟩])
     .ret)
    .skip))
  (.seq (.seq (.ops [
      ⟨(some 15), none, .fieldAddr 0 (.t 3)⟩,
      ⟨(some 16), none, .load1 (.t 15)⟩])
    (.block 0 (.seq (.ops [
        ⟨(some 18), none, .bin .eql true 3 (.t 16) (.c (.i 5))⟩,
        ⟨(some 17), none, .move (.t 18)⟩])
      (.cond (.t 17)
       (.seq (.draw [
          (⟨(some 19), none, .move (.t 0)⟩, []),
          (⟨(some 20), none, .fieldAddr 3 (.t 3)⟩, []),
          (⟨(some 21), none, .load1 (.t 20)⟩, []),
          (⟨(some 22), none, .ixAddr 3 (.t 19) (.t 21)⟩, []),
          (⟨(some 23), none, .fieldAddr 0 (.t 22)⟩, []),
          (⟨(some 24), none, .load1 (.t 23)⟩, []),
          (⟨(some 25), none, .move (.t 0)⟩, []),
          (⟨(some 26), none, .fieldAddr 4 (.t 3)⟩, []),
          (⟨(some 27), none, .load1 (.t 26)⟩, []),
          (⟨(some 28), none, .ixAddr 3 (.t 25) (.t 27)⟩, []),
          (⟨(some 29), none, .fieldAddr 0 (.t 28)⟩, []),
          (⟨(some 30), none, .load1 (.t 29)⟩, []),
          (⟨(some 31), none, .bin .add false 3 (.t 24) (.t 30)⟩, []),
          (⟨(some 4), none, .move (.t 31)⟩, [])])
        .ret)
       (.seq (.ops [
          ⟨(some 33), none, .bin .eql true 3 (.t 16) (.c (.i 6))⟩,
          ⟨(some 32), none, .move (.t 33)⟩])
        (.cond (.t 32)
         (.seq (.ops [
            ⟨(some 34), none, .move (.t 0)⟩,
            ⟨(some 35), none, .fieldAddr 3 (.t 3)⟩,
            ⟨(some 36), none, .load1 (.t 35)⟩,
            ⟨(some 37), none, .ixAddr 3 (.t 34) (.t 36)⟩,
            ⟨(some 38), none, .fieldAddr 0 (.t 37)⟩,
            ⟨(some 39), none, .load1 (.t 38)⟩,
            ⟨(some 40), none, .callV (.c (.fn (.func 25) [] [])) [(.t 39)]⟩,
            ⟨(some 4), none, .move (.t 40)⟩])
          .ret)
         (.seq (.seq (.ops [
             ⟨(some 42), none, .bin .eql true 3 (.t 16) (.c (.i 9))⟩,
             ⟨(some 41), none, .move (.t 42)⟩])
           (.cond (.t 41)
            .skip
            (.seq (.ops [
               ⟨(some 43), none, .bin .eql true 3 (.t 16) (.c (.i 10))⟩,
               ⟨(some 41), none, .move (.t 43)⟩])
             (.cond (.t 41)
              .skip
              (.ops [
                ⟨(some 44), none, .bin .eql true 3 (.t 16) (.c (.i 11))⟩,
                ⟨(some 41), none, .move (.t 44)⟩])))))
          (.cond (.t 41)
           (.seq (.ops [
              ⟨(some 45), none, .move (.t 0)⟩,
              ⟨(some 46), none, .fieldAddr 5 (.t 3)⟩,
              ⟨(some 47), none, .load1 (.t 46)⟩,
              ⟨(some 48), none, .ixAddr 3 (.t 45) (.t 47)⟩,
              ⟨(some 49), none, .fieldAddr 0 (.t 48)⟩,
              ⟨(some 50), none, .load1 (.t 49)⟩,
              ⟨(some 51), none, .bin .add true 3 (.t 50) (.c (.i 1))⟩,
              ⟨(some 52), none, .bin .mul true 3 (.c (.i 2)) (.t 51)⟩,
              ⟨(some 4), none, .move (.t 52)⟩])
            .ret)
           .skip))))))))
   (.seq (.ops [
      ⟨(some 4), none, .move (.c (.i 1))⟩])
    .ret))))
theorem r_expand_Work : resFn Try.prog 11 = some ⟨53, c_expand_Work.r, [.tmp 4]⟩ := by kernel_rfl
theorem k_expand_Work : c_expand_Work.ok = true := by kernel_rfl

def c_montgomery_Need : LC :=
 (.seq (.ops [
   ⟨(some 2), none, .move (.c (.i 0))⟩])
 (.seq (.seq (.ops [
     ⟨(some 3), none, .move (.t 0)⟩,
     ⟨(some 4), none, .bin .lss true 3 (.t 3) (.c (.i 1))⟩])
   (.cond (.t 4)
    (.seq (.ops [
       ⟨(some 2), none, .move (.c (.i 0))⟩])
     .ret)
    .skip))
  (.seq (.ops [
     ⟨(some 5), none, .move (.t 0)⟩,
     ⟨(some 6), none, .bin .add true 3 (.t 5) (.c (.i 2))⟩,
     ⟨(some 2), none, .move (.t 6)⟩])
   .ret)))
theorem r_montgomery_Need : resFn Try.prog 26 = some ⟨7, c_montgomery_Need.r, [.tmp 2]⟩ := by kernel_rfl
theorem k_montgomery_Need : c_montgomery_Need.ok = true := by kernel_rfl

def c_montgomery_Work : LC :=
 (.seq (.ops [
   ⟨(some 3), none, .box (.t 1)⟩,
   ⟨(some 4), none, .move (.c (.i 0))⟩])
 (.seq (.seq (.ops [
     ⟨(some 5), none, .fieldAddr 0 (.t 3)⟩,
     ⟨(some 6), none, .load1 (.t 5)⟩,
     ⟨(some 7), none, .bin .neq true 3 (.t 6) (.c (.i 12))⟩,
     ⟨(some 8), none, .move (.t 7)⟩,
     ⟨(some 9), (some (8, false)), .move (.t 0)⟩,
     ⟨(some 10), (some (8, false)), .loadN 7 (.t 3)⟩,
     ⟨(some 11), (some (8, false)), .callV (.c (.fn (.func 24) [] [])) [(.t 9), (.t 10)]⟩,
     ⟨(some 12), (some (8, false)), .un .not (.t 11)⟩,
     ⟨(some 13), none, .pick (.t 8) (.c (.bool true)) (.t 12)⟩])
   (.cond (.t 13)
    (.seq (.ops [
       ⟨(some 4), none, .move (.c (.i 0))⟩])
     .ret)
    .skip))
  (.seq (.ops [
     ⟨(some 14), none, .move (.t 0)⟩,
     ⟨(some 15), none, .fieldAddr 5 (.t 3)⟩,
     ⟨(some 16), none, .load1 (.t 15)⟩,
     ⟨(some 17), none, .ixAddr 3 (.t 14) (.t 16)⟩,
     ⟨(some 18), none, .fieldAddr 0 (.t 17)⟩,
     ⟨(some 19), none, .load1 (.t 18)⟩,
     ⟨(some 20), none, .callV (.c (.fn (.func 26) [] [])) [(.t 19)]⟩,
     ⟨(some 4), none, .move (.t 20)⟩])
   .ret)))
theorem r_montgomery_Work : resFn Try.prog 12 = some ⟨21, c_montgomery_Work.r, [.tmp 4]⟩ := by kernel_rfl
theorem k_montgomery_Work : c_montgomery_Work.ok = true := by kernel_rfl

def c_power_Work : LC :=
 (.seq (.ops [
   ⟨(some 3), none, .box (.t 1)⟩,
   ⟨(some 4), none, .move (.c (.i 0))⟩])
 (.seq (.seq (.ops [
     ⟨(some 6), none, .fieldAddr 0 (.t 3)⟩,
     ⟨(some 7), none, .load1 (.t 6)⟩,
     ⟨(some 8), none, .bin .neq true 3 (.t 7) (.c (.i 13))⟩,
     ⟨(some 9), none, .move (.t 8)⟩,
     ⟨(some 10), (some (9, false)), .move (.t 0)⟩,
     ⟨(some 11), (some (9, false)), .loadN 7 (.t 3)⟩,
     ⟨(some 12), (some (9, false)), .callV (.c (.fn (.func 24) [] [])) [(.t 10), (.t 11)]⟩,
     ⟨(some 13), (some (9, false)), .un .not (.t 12)⟩,
     ⟨(some 14), none, .pick (.t 9) (.c (.bool true)) (.t 13)⟩])
   (.cond (.t 14)
    (.seq (.ops [
       ⟨(some 4), none, .move (.c (.i 0))⟩])
     .ret)
    .skip))
  (.seq (.ops [
     ⟨(some 15), none, .move (.t 0)⟩,
     ⟨(some 16), none, .fieldAddr 5 (.t 3)⟩,
     ⟨(some 17), none, .load1 (.t 16)⟩,
     ⟨(some 18), none, .ixAddr 3 (.t 15) (.t 17)⟩,
     ⟨(some 19), none, .fieldAddr 0 (.t 18)⟩,
     ⟨(some 20), none, .load1 (.t 19)⟩,
     ⟨(some 5), none, .move (.t 20)⟩])
   (.seq (.draw [
      (⟨(some 21), none, .fieldAddr 6 (.t 3)⟩, []),
      (⟨(some 22), none, .load1 (.t 21)⟩, []),
      (⟨(some 23), none, .bin .shl true 3 (.c (.i 1)) (.t 22)⟩, []),
      (⟨(some 24), none, .bin .add true 3 (.c (.i 3)) (.t 23)⟩, []),
      (⟨(some 25), none, .move (.t 5)⟩, []),
      (⟨(some 26), none, .bin .mul false 3 (.t 24) (.t 25)⟩, []),
      (⟨(some 27), none, .move (.t 0)⟩, []),
      (⟨(some 28), none, .fieldAddr 4 (.t 3)⟩, []),
      (⟨(some 29), none, .load1 (.t 28)⟩, []),
      (⟨(some 30), none, .ixAddr 3 (.t 27) (.t 29)⟩, []),
      (⟨(some 31), none, .fieldAddr 0 (.t 30)⟩, []),
      (⟨(some 32), none, .load1 (.t 31)⟩, []),
      (⟨(some 33), none, .bin .add false 3 (.t 26) (.t 32)⟩, []),
      (⟨(some 34), none, .bin .add true 3 (.t 33) (.c (.i 1))⟩, []),
      (⟨(some 35), none, .move (.t 5)⟩, []),
      (⟨(some 36), none, .callV (.c (.fn (.func 26) [] [])) [(.t 35)]⟩, [(⟨(some 32), none, .load1 (.t 31)⟩, false), (⟨(some 29), none, .load1 (.t 28)⟩, false), (⟨(some 22), none, .load1 (.t 21)⟩, false)]),
      (⟨(some 37), none, .bin .add false 3 (.t 34) (.t 36)⟩, []),
      (⟨(some 4), none, .move (.t 37)⟩, [])])
    .ret))))
theorem r_power_Work : resFn Try.prog 13 = some ⟨38, c_power_Work.r, [.tmp 4]⟩ := by kernel_rfl
theorem k_power_Work : c_power_Work.ok = true := by kernel_rfl

def c_buffers_Work : LC :=
 (.seq (.ops [
   ⟨(some 3), none, .box (.t 1)⟩,
   ⟨(some 4), none, .move (.c (.i 0))⟩])
 (.seq (.draw [
    (⟨(some 6), none, .move (.t 0)⟩, []),
    (⟨(some 7), none, .loadN 7 (.t 3)⟩, []),
    (⟨(some 9), none, .move (.t 0)⟩, []),
    (⟨(some 10), none, .loadN 7 (.t 3)⟩, []),
    (⟨(some 12), none, .move (.t 0)⟩, []),
    (⟨(some 13), none, .loadN 7 (.t 3)⟩, []),
    (⟨(some 8), none, .callV (.c (.fn (.func 11) [] [])) [(.t 6), (.t 7)]⟩, [(⟨(some 13), none, .loadN 7 (.t 3)⟩, false), (⟨(some 10), none, .loadN 7 (.t 3)⟩, false)]),
    (⟨(some 11), none, .callV (.c (.fn (.func 12) [] [])) [(.t 9), (.t 10)]⟩, [(⟨(some 13), none, .loadN 7 (.t 3)⟩, false)]),
    (⟨(some 14), none, .callV (.c (.fn (.func 13) [] [])) [(.t 12), (.t 13)]⟩, []),
    (⟨(some 15), none, .max3 true (.t 8) (.t 11) (.t 14)⟩, []),
    (⟨(some 5), none, .move (.t 15)⟩, [])])
  (.seq (.seq (.ops [
      ⟨(some 16), none, .move (.t 5)⟩,
      ⟨(some 17), none, .bin .gtr true 3 (.t 16) (.c (.i 32768))⟩])
    (.cond (.t 17)
     (.seq (.ops [
        ⟨(some 4), none, .move (.c (.i 0))⟩])
      .ret)
     .skip))
   (.seq (.ops [
      ⟨(some 18), none, .move (.t 5)⟩,
      ⟨(some 4), none, .move (.t 18)⟩])
    .ret))))
theorem r_buffers_Work : resFn Try.prog 14 = some ⟨19, c_buffers_Work.r, [.tmp 4]⟩ := by kernel_rfl
theorem k_buffers_Work : c_buffers_Work.ok = true := by kernel_rfl



theorem expand_given_ok (v : Vr) : FnS Try.prog 59 [.agg v.f] (.bool (givenB v)) [] := by
  refine FnS.val rfl (call_body r_expand_given k_expand_given (by simp) ?_)
  by_cases h1 : v.mode = 1 <;> simp [c_expand_given, Vr.f, givenB, h1]
theorem startOs_cut {vs : List Vr} {i : Nat} (h : i < vs.length) : startOs i (vs.drop i) = (if givenB (gv vs i) = true then [] else [kop 1 i]) ++ startOs (i + 1) (vs.drop (i + 1)) := by
  rw [drop_gv h, startOs]
  split <;> rfl
theorem cells_agg (l : List LV) : (LV.agg l).cells = some l := rfl
theorem osC_app (a b : List Ko) : osC (a ++ b) = osC a ++ osC b := by simp [osC]
theorem expand_kernel_ok (vs : List Vr) (new : List Ko) (hl : vs.length ≤ 1000000) (hn : new.length ≤ 1000000) : FnV Try.prog 45 [.lst (vsC vs) vs.length 3, .lst (osC new) new.length 7] (.agg (kerC vs (startOs 0 vs ++ new) [])) := by
  refine FnV.mk (by simp [kerC, LV.dat, dats, vsC_dats, osC_dats]) (call_body r_expand_kernel k_expand_kernel (by simp) ?_)
  simp [c_expand_kernel]
  refine loop_nx (fun ρ D G N => ∃ (i : Nat) (L : List Ko) (v : LV) (st : Nat), D = [] ∧ N + i = vs.length ∧ lk ρ 1 = .lst (osC new) new.length 7 ∧ lk ρ 4 = .ptr 0 0 ∧ lk ρ 5 = .ptr 1 0 ∧ lk ρ 10 = .lst (vsC vs) vs.length 3 ∧ lk ρ 11 = .i vs.length ∧ lk ρ 12 = .i i ∧
      1 < G.length ∧ G[0]? = some (.cells [.nilSl, .nilSl, .nilSl] 0) ∧ G[1]? = some (.cells [.lst (vsC vs) vs.length 3, v, .nilSl] st) ∧ Rw 2 G v 7 L.length (osC L) ∧ L.length ≤ i ∧ startOs 0 vs = L ++ startOs i (vs.drop i)) (N := vs.length)
    ⟨0, [], .nilSl, 1, rfl, by omega, by simp, by simp, by simp, by simp, by simp, by simp, by simp, by simp, by simp, Rw.nil, by simp, by simp⟩ ?_
  rintro N ρ D G ⟨i, L, v, st, rfl, hN, h1, h4, h5, h10, h11, h12, hl1, hG0, hG1, hR, hLi, hst⟩ Nx hNx
  have hl0 : 0 < G.length := by omega
  by_cases g : i < vs.length
  · have hg := at_gv g
    have q3 := vs_three hg
    have hqq := vs_lt g
    have hf : (gv vs i).f = [.i (gv vs i).limbs, .bool (gv vs i).sec, .i (gv vs i).mode] := rfl
    have hcut := startOs_cut g
    rw [hcut] at hst
    simp [h10, h11, h12, g, q3, hqq, hf]
    rw [← hf]
    refine CallL_F (expand_given_ok (gv vs i)) (bors_self _ rfl) ?_
    cases hgv : givenB (gv vs i) with
    | true =>
      rw [hgv] at hst
      simp [h12]
      refine ⟨by omega, hNx _ _ _ ⟨N - 1, by omega, i + 1, L, v, st, rfl, by omega, by simp [h1], by simp [h4], by simp [h5], by simp [h10], by simp [h11], by simp, by simp; omega, by rw [old1 hl0]; exact hG0, by rw [old1 hl1]; exact hG1, hR.push_end, by omega, by simpa using hst⟩⟩
    | false =>
      rw [hgv] at hst
      simp [h5, ↓old1 hl1, hG1]
      refine Rw.push (m := 1) (x := (kop 1 i).f) hR.push_end (by omega) (by simp) (by omega) rfl fun v' G' hR' hfr hb => ?_
      have hG1' : G'[1]? = some (.cells [.lst (vsC vs) vs.length 3, v, .nilSl] st) := by rw [hfr 1 (by omega), old1 hl1]; exact hG1
      have hG0' : G'[0]? = some (.cells [.nilSl, .nilSl, .nilSl] 0) := by rw [hfr 0 (by omega), old1 hl0]; exact hG0
      have hc := hR'.cells
      simp [-LV.cells, h5, h12, hG1', hc]
      refine ⟨by omega, hNx _ _ _ ⟨N - 1, by omega, i + 1, L ++ [kop 1 i], v', st + 1, rfl, by omega, by simp [h1], by simp [h4], by simp [h5], by simp [h10], by simp [h11], by simp, by simp; omega, ?_, ?_, ?_, by simp; omega, by simpa using hst⟩⟩
      · rw [List.getElem?_set_ne (by omega)]; exact hG0'
      · rw [List.getElem?_set_self (by omega)]
      · rw [osC_app, List.length_append, show osC [kop 1 (i : Int)] = (kop 1 i).f by simp [osC]]; exact hR'.set_lt (by omega)
  · rw [List.drop_of_length_le (by omega)] at hst
    have hst : startOs 0 vs = L := by simpa [startOs] using hst
    simp [h1, h5, h10, h11, h12, g, hG1]
    refine ⟨by omega, ?_⟩
    refine Rw.push (m := new.length) hR (by omega) (by omega) (by omega) (osC_len new) fun v' G' hR' hfr hb => ?_
    have hG1' : G'[1]? = some (.cells [.lst (vsC vs) vs.length 3, v, .nilSl] st) := by rw [hfr 1 (by omega)]; exact hG1
    have hG0' : G'[0]? = some (.cells [.nilSl, .nilSl, .nilSl] 0) := by rw [hfr 0 (by omega)]; exact hG0
    have hc := hR'.cells
    have s1 : ∀ x, (G'.set 1 x)[1]? = some x := fun x => List.getElem?_set_self (by omega)
    have s0 : ∀ x, (G'.set 1 x)[0]? = some (.cells [.nilSl, .nilSl, .nilSl] 0) := fun x => by rw [List.getElem?_set_ne (by omega)]; exact hG0'
    have s2 : ∀ x y, ((G'.set 1 x).set 0 y)[0]? = some y := fun x y => List.getElem?_set_self (by rw [List.length_set]; omega)
    simp [-LV.cells, h4, h5, ↓hG1', ↓s1, ↓s0, ↓s2, hc, cells_agg]
    refine ⟨_, _, rfl, ⟨rfl, vsC_dats vs⟩, _, _, rfl, ?_, _, rfl, .inr ⟨7, rfl⟩⟩
    rw [hst, osC_app, List.length_append]
    exact ((hR'.set_lt (by omega)).set_lt (by omega)).bor (dats_app (osC_dats _) (osC_dats _))
theorem one_row (o : Ko) : o.f = osC [o] := by simp [osC]
theorem expand_May_ok (vs : List Vr) (o : Ko) (hl : vs.length ≤ 1000000) : FnS Try.prog 24 [.lst (vsC vs) vs.length 3, .agg o.f] (.bool (mayB vs o)) [] := by
  refine FnS.val rfl (call_body r_expand_May k_expand_May (by simp) ?_)
  have hC : o.f = [.i o.kind, .i o.d, .i o.e, .i o.a, .i o.b, .i o.c, .u o.imm] := rfl
  by_cases h15 : o.kind = 15
  · simp [c_expand_May, hC, h15]; simp [mayB, loopK, h15]
  by_cases h16 : o.kind = 16
  · simp [c_expand_May, hC, h15, h16]; simp [mayB, loopK, h16]
  simp [c_expand_May, hC, h15, h16]
  refine CallL_fz (a := [.lst (vsC vs) vs.length 3]) (b := []) rfl ?_
  rw [← hC, one_row]
  refine CallL_V (expand_kernel_ok vs [o] hl (by simp)) (by simp [dats, LV.dat, vsC_dats, osC_dats]) ?_
  simp
  refine CallL_F (lengths_Check_ok vs _ [] (by omega)) (bors_self _ (by simp [kerC, dats, LV.dat, vsC_dats, osC_dats])) ?_
  simp [mayB, loopK, h15, h16, chkE]
theorem expand_Has_ok (k : Int) : FnS Try.prog 23 [.i k] (.bool (hasK k)) [] := by
  refine FnS.val rfl (call_body r_expand_Has k_expand_Has (by simp) ?_)
  by_cases h1 : 1 ≤ k
  · by_cases h2 : k ≤ 11 <;> simp [c_expand_Has, hasK, h1, h2]
  · simp [c_expand_Has, hasK, h1]
theorem halves_ok (n : Int) (h : 0 ≤ n ∧ n ≤ 512) : FnS Try.prog 25 [.i n] (.i (halvesN n)) [] := by
  refine FnS.val rfl (call_body r_expand_halvesWork k_expand_halvesWork (by simp) ?_)
  have ht : n.tdiv 2 = n / 2 := Int.tdiv_eq_ediv_of_nonneg h.1
  simp [c_expand_halvesWork, halvesN, ht]
  omega
theorem expand_Work_ok (vs : List Vr) (o : Ko) (hl : vs.length ≤ 1000000) : FnS Try.prog 11 [.lst (vsC vs) vs.length 3, .agg o.f] (.i (workE vs o)) [] := by
  refine FnS.val rfl (call_body r_expand_Work k_expand_Work (by simp) ?_)
  have hC : o.f = [.i o.kind, .i o.d, .i o.e, .i o.a, .i o.b, .i o.c, .u o.imm] := rfl
  simp [c_expand_Work, hC]
  refine CallL_F (expand_Has_ok o.kind) (by simp) ?_
  cases hh : hasK o.kind with
  | false => simp [workE, hh]
  | true =>
  simp [hC]
  rw [← hC]
  refine CallL_F (expand_May_ok vs o hl) (bors_self _ (by simp [dats, LV.dat, vsC_dats, hC])) ?_
  cases hm : mayB vs o with
  | false => simp [workE, hh, hm]
  | true =>
  by_cases h5 : o.kind = 5
  · obtain ⟨hv, hp, _⟩ := may_parts (s := 13) hm (by simp [shapeN, h5])
    obtain ⟨a, ea, ha, qa, la⟩ := limbs_nat hv (parts_a hp (by decide))
    obtain ⟨b, eb, hb, qb, lb⟩ := limbs_nat hv (parts_b hp (by decide))
    simp [hC, h5, ea, eb, ha, hb]
    simp [ea] at qa la
    simp [eb] at qb lb
    simp [nthL_at qa, nthL_at qb]
    repeat (refine ⟨by omega, ?_⟩)
    simp [workE, hm, h5, show hasK 5 = true from rfl, ea, eb]
  by_cases h6 : o.kind = 6
  · obtain ⟨hv, hp, _⟩ := may_parts (s := 13) hm (by simp [shapeN, h6])
    obtain ⟨a, ea, ha, qa, la⟩ := limbs_nat hv (parts_a hp (by decide))
    simp [hC, h6, ea, ha]
    simp [ea] at qa la
    simp [nthL_at qa]
    refine CallL_F (halves_ok (limbsAt vs (a : Int)) (by omega)) (by simp) ?_
    simp [workE, hm, h6, show hasK 6 = true from rfl, ea]
  by_cases h9 : o.kind = 9
  · obtain ⟨hv, hp, _⟩ := may_parts (s := 21) hm (by simp [shapeN, h9])
    obtain ⟨a, ea, ha, qa, la⟩ := limbs_nat hv (parts_c hp (by decide))
    simp [hC, h9, ea, ha]
    simp [ea] at qa la
    simp [nthL_at qa]
    repeat (refine ⟨by omega, ?_⟩)
    simp [workE, hm, h9, show hasK 9 = true from rfl, ea]
  by_cases h10 : o.kind = 10
  · obtain ⟨hv, hp, _⟩ := may_parts (s := 29) hm (by simp [shapeN, h10])
    obtain ⟨a, ea, ha, qa, la⟩ := limbs_nat hv (parts_c hp (by decide))
    simp [hC, h10, ea, ha]
    simp [ea] at qa la
    simp [nthL_at qa]
    repeat (refine ⟨by omega, ?_⟩)
    simp [workE, hm, h10, show hasK 10 = true from rfl, ea]
  by_cases h11 : o.kind = 11
  · obtain ⟨hv, hp, _⟩ := may_parts (s := 29) hm (by simp [shapeN, h11])
    obtain ⟨a, ea, ha, qa, la⟩ := limbs_nat hv (parts_c hp (by decide))
    simp [hC, h11, ea, ha]
    simp [ea] at qa la
    simp [nthL_at qa]
    repeat (refine ⟨by omega, ?_⟩)
    simp [workE, hm, h11, show hasK 11 = true from rfl, ea]
  simp [hC, h5, h6, h9, h10, h11]
  simp [workE, hh, hm, h5, h6, h9, h10, h11]
theorem montgomery_Need_ok (n : Int) (h : 1 ≤ n ∧ n ≤ 512) : FnS Try.prog 26 [.i n] (.i (n + 2)) [] := by
  refine FnS.val rfl (call_body r_montgomery_Need k_montgomery_Need (by simp) ?_)
  have h1 : ¬ n < 1 := by omega
  simp [c_montgomery_Need, h1]
  omega
theorem montgomery_Work_ok (vs : List Vr) (o : Ko) (hl : vs.length ≤ 1000000) : FnS Try.prog 12 [.lst (vsC vs) vs.length 3, .agg o.f] (.i (workM vs o)) [] := by
  refine FnS.val rfl (call_body r_montgomery_Work k_montgomery_Work (by simp) ?_)
  have hC : o.f = [.i o.kind, .i o.d, .i o.e, .i o.a, .i o.b, .i o.c, .u o.imm] := rfl
  by_cases hk : o.kind = 12
  case neg => simp [c_montgomery_Work, hC, hk, workM]
  simp [c_montgomery_Work, hC, hk]
  have hf := expand_May_ok vs o hl
  rw [hC, hk] at hf
  refine CallL_F hf (bors_self _ (by simp [dats, LV.dat, vsC_dats])) ?_
  cases hm : mayB vs o with
  | false => simp [workM, hm]
  | true =>
  obtain ⟨hv, hp, _⟩ := may_parts (s := 29) hm (by simp [shapeN, hk])
  obtain ⟨a, ea, ha, qa, la⟩ := limbs_nat hv (parts_c hp (by decide))
  simp [ea, ha]
  simp [ea] at qa la
  simp [nthL_at qa]
  refine CallL_F (montgomery_Need_ok (limbsAt vs (a : Int)) la) (by simp) ?_
  simp [workM, hm, hk, ea]
theorem power_Work_ok (vs : List Vr) (o : Ko) (hl : vs.length ≤ 1000000) : FnS Try.prog 13 [.lst (vsC vs) vs.length 3, .agg o.f] (.i (workP vs o)) [] := by
  refine FnS.val rfl (call_body r_power_Work k_power_Work (by simp) ?_)
  have hC : o.f = [.i o.kind, .i o.d, .i o.e, .i o.a, .i o.b, .i o.c, .u o.imm] := rfl
  by_cases hk : o.kind = 13
  case neg => simp [c_power_Work, hC, hk, workP]
  simp [c_power_Work, hC, hk]
  have hf := expand_May_ok vs o hl
  rw [hC, hk] at hf
  refine CallL_F hf (bors_self _ (by simp [dats, LV.dat, vsC_dats])) ?_
  cases hm : mayB vs o with
  | false => simp [workP, hm]
  | true =>
  obtain ⟨hv, hp, hn, _⟩ := may_parts (s := 29) hm (by simp [shapeN, hk])
  obtain ⟨a, ea, ha, qa, la⟩ := limbs_nat hv (parts_c hp (by decide))
  obtain ⟨b, eb, hb, qb, lb⟩ := limbs_nat hv (parts_b hp (by decide))
  simp [numB, hk] at hn
  simp [ea, eb, ha, hb]
  simp [ea] at qa la
  simp [eb] at qb lb
  simp [nthL_at qa, nthL_at qb]
  have h6 : o.imm.toNat ≤ 6 := by have := hn.2; rw [UInt64.le_iff_toNat_le] at this; exact this
  have hw : ∀ n, n ≤ 6 → (1 : Int) ≤ 2 ^ n ∧ (2 : Int) ^ n ≤ 64 := by decide
  obtain ⟨w1, w2⟩ := hw _ h6
  have m1 : (0 : Int) ≤ (3 + 2 ^ o.imm.toNat) * limbsAt vs a := Int.mul_nonneg (by omega) (by omega)
  have m2 : (3 + 2 ^ o.imm.toNat) * limbsAt vs a ≤ 67 * 512 := Int.mul_le_mul (by omega) la.2 (by omega) (by omega)
  refine ⟨by omega, by omega, by omega, by omega, hb, by omega, by omega, ?_⟩
  refine CallL_F (montgomery_Need_ok (limbsAt vs (a : Int)) la) (by simp) ?_
  simp
  repeat (refine ⟨by omega, ?_⟩)
  simp [workP, hm, hk, ea, eb]
def workN (vs : List Vr) (o : Ko) : Int := if 32768 < max (workE vs o) (max (workM vs o) (workP vs o)) then 0 else max (workE vs o) (max (workM vs o) (workP vs o))
theorem buffers_Work_ok (vs : List Vr) (o : Ko) (hl : vs.length ≤ 1000000) : FnS Try.prog 14 [.lst (vsC vs) vs.length 3, .agg o.f] (.i (workN vs o)) [] := by
  refine FnS.val rfl (call_body r_buffers_Work k_buffers_Work (by simp) ?_)
  have hC : o.f = [.i o.kind, .i o.d, .i o.e, .i o.a, .i o.b, .i o.c, .u o.imm] := rfl
  have hb : ∀ {G : LHeap}, bors G [.lst (vsC vs) vs.length 3, .agg o.f] [.lst (vsC vs) vs.length 3, .agg o.f] := bors_self _ (by simp [dats, LV.dat, vsC_dats, hC])
  simp [c_buffers_Work, hC]
  rw [← hC]
  refine CallL_F (expand_Work_ok vs o hl) hb ?_
  simp
  refine CallL_F (montgomery_Work_ok vs o hl) hb ?_
  simp
  refine CallL_F (power_Work_ok vs o hl) hb ?_
  simp [workN]
  omega
end Go.Proofs.Ytknbplplhbfggaa
