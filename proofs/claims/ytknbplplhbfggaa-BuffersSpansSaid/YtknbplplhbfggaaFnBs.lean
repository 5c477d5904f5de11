/- Spans of variables. -/
import Derived.Test.YtknbplplhbfggaaFnK8
namespace Go.Proofs.Ytknbplplhbfggaa
open Go.Sv
set_option linter.unusedSimpArgs false
set_option maxRecDepth 10000

def c_slices_Index_int_int : LC :=
 (.seq (.ops [
   ⟨(some 4), none, .move (.c (.i 0))⟩])
 (.seq (.seq (.ops [
     ⟨(some 6), none, .move (.t 0)⟩,
     ⟨(some 7), none, .lenSl (.t 6)⟩,
     ⟨(some 8), none, .move (.c (.i 0))⟩])
   (.block 0 (.loop (.seq (.ops [
        ⟨(some 9), none, .bin .lss false 3 (.t 8) (.t 7)⟩])
      (.seq (.cond (.t 9)
        .skip
        (.exit 0))
       (.seq (.block 1 (.seq (.ops [
            ⟨(some 10), none, .move (.t 8)⟩,
            ⟨(some 5), none, .move (.t 10)⟩])
          (.seq (.ops [
             ⟨(some 11), none, .move (.t 1)⟩,
             ⟨(some 12), none, .move (.t 0)⟩,
             ⟨(some 13), none, .move (.t 5)⟩,
             ⟨(some 14), none, .ixAddr 1 (.t 12) (.t 13)⟩,
             ⟨(some 15), none, .load1 (.t 14)⟩,
             ⟨(some 16), none, .bin .eql false 3 (.t 11) (.t 15)⟩])
           (.cond (.t 16)
            (.seq (.ops [
               ⟨(some 17), none, .move (.t 5)⟩,
               ⟨(some 4), none, .move (.t 17)⟩])
             .ret)
            .skip))))
        (.ops [
          ⟨(some 18), none, .bin .add true 3 (.t 8) (.c (.i 1))⟩,
          ⟨(some 8), none, .move (.t 18)⟩])))))))
  (.seq (.ops [
     ⟨(some 4), none, .move (.c (.i (-1)))⟩])
   .ret)))
theorem r_slices_Index_int_int : resFn Try.prog 63 = some ⟨19, c_slices_Index_int_int.r, [.tmp 4]⟩ := by kernel_rfl
theorem k_slices_Index_int_int : c_slices_Index_int_int.ok = true := by kernel_rfl

def c_slices_Contains_int_int : LC :=
 (.seq (.ops [
   ⟨(some 4), none, .move (.c (.bool false))⟩])
 (.seq (.ops [
    ⟨(some 5), none, .move (.t 0)⟩,
    ⟨(some 6), none, .move (.t 1)⟩,
    ⟨(some 7), none, .callV (.c (.fn (.func 63) [] [])) [(.t 5), (.t 6)]⟩,
    ⟨(some 8), none, .bin .geq true 3 (.t 7) (.c (.i 0))⟩,
    ⟨(some 4), none, .move (.t 8)⟩])
  .ret))
theorem r_slices_Contains_int_int : resFn Try.prog 58 = some ⟨9, c_slices_Contains_int_int.r, [.tmp 4]⟩ := by kernel_rfl
theorem k_slices_Contains_int_int : c_slices_Contains_int_int.ok = true := by kernel_rfl

def c_buffers_has : LC :=
 (.seq (.ops [
   ⟨(some 2), none, .box (.t 0)⟩,
   ⟨(some 4), none, .move (.c (.bool false))⟩])
 (.seq (.ops [
    ⟨(some 5), none, .fieldAddr 1 (.t 2)⟩,
    ⟨(some 6), none, .load1 (.t 5)⟩,
    ⟨(some 7), none, .fieldAddr 2 (.t 2)⟩,
    ⟨(some 8), none, .load1 (.t 7)⟩,
    ⟨(some 9), none, .fieldAddr 3 (.t 2)⟩,
    ⟨(some 10), none, .load1 (.t 9)⟩,
    ⟨(some 11), none, .fieldAddr 4 (.t 2)⟩,
    ⟨(some 12), none, .load1 (.t 11)⟩,
    ⟨(some 13), none, .fieldAddr 5 (.t 2)⟩,
    ⟨(some 14), none, .load1 (.t 13)⟩,
    ⟨(some 15), none, .buildSl 1 5 [(.i 0), (.i 0), (.i 0), (.i 0), (.i 0)] [(0, 1, (.t 6)), (1, 1, (.t 8)), (2, 1, (.t 10)), (3, 1, (.t 12)), (4, 1, (.t 14))]⟩,
    ⟨(some 16), none, .move (.t 1)⟩,
    ⟨(some 17), none, .callV (.c (.fn (.func 58) [] [])) [(.t 15), (.t 16)]⟩,
    ⟨(some 4), none, .move (.t 17)⟩])
  .ret))
theorem r_buffers_has : resFn Try.prog 41 = some ⟨18, c_buffers_has.r, [.tmp 4]⟩ := by kernel_rfl
theorem k_buffers_has : c_buffers_has.ok = true := by kernel_rfl

def c_buffers_none : LC :=
 (.seq (.ops [
   ⟨(some 1), none, .box (.t 0)⟩,
   ⟨(some 2), none, .move (.c (.bool false))⟩])
 (.seq (.ops [
    ⟨(some 3), none, .fieldAddr 0 (.t 1)⟩,
    ⟨(some 4), none, .load1 (.t 3)⟩,
    ⟨(some 5), none, .bin .lss true 3 (.t 4) (.c (.i 0))⟩,
    ⟨(some 2), none, .move (.t 5)⟩])
  .ret))
theorem r_buffers_none : resFn Try.prog 42 = some ⟨6, c_buffers_none.r, [.tmp 2]⟩ := by kernel_rfl
theorem k_buffers_none : c_buffers_none.ok = true := by kernel_rfl

def c_buffers_pair_int_meets : LC :=
 (.seq (.ops [
   ⟨(some 2), none, .box (.t 0)⟩,
   ⟨(some 3), none, .box (.t 1)⟩,
   ⟨(some 4), none, .move (.c (.bool false))⟩])
 (.seq (.ops [
    ⟨(some 5), none, .fieldAddr 0 (.t 2)⟩,
    ⟨(some 6), none, .load1 (.t 5)⟩,
    ⟨(some 7), none, .fieldAddr 1 (.t 3)⟩,
    ⟨(some 8), none, .load1 (.t 7)⟩,
    ⟨(some 9), none, .bin .leq false 3 (.t 6) (.t 8)⟩,
    ⟨(some 10), none, .move (.t 9)⟩,
    ⟨(some 11), (some (10, true)), .fieldAddr 0 (.t 3)⟩,
    ⟨(some 12), (some (10, true)), .load1 (.t 11)⟩,
    ⟨(some 13), (some (10, true)), .fieldAddr 1 (.t 2)⟩,
    ⟨(some 14), (some (10, true)), .load1 (.t 13)⟩,
    ⟨(some 15), (some (10, true)), .bin .leq false 3 (.t 12) (.t 14)⟩,
    ⟨(some 16), none, .pick (.t 10) (.t 15) (.c (.bool false))⟩,
    ⟨(some 4), none, .move (.t 16)⟩])
  .ret))
theorem r_buffers_pair_int_meets : resFn Try.prog 43 = some ⟨17, c_buffers_pair_int_meets.r, [.tmp 4]⟩ := by kernel_rfl
theorem k_buffers_pair_int_meets : c_buffers_pair_int_meets.ok = true := by kernel_rfl

def c_buffers_pair_int_wide : LC :=
 (.seq (.ops [
   ⟨(some 2), none, .box (.t 0)⟩,
   ⟨(some 3), none, .box (.t 1)⟩,
   ⟨(some 4), none, .alloc [(.i 0), (.i 0)]⟩])
 (.seq (.ops [
    ⟨(some 5), none, .fieldAddr 0 (.t 2)⟩,
    ⟨(some 6), none, .load1 (.t 5)⟩,
    ⟨(some 7), none, .fieldAddr 0 (.t 3)⟩,
    ⟨(some 8), none, .load1 (.t 7)⟩,
    ⟨(some 9), none, .maxi false (.t 6) (.t 8)⟩,
    ⟨(some 10), none, .fieldAddr 1 (.t 2)⟩,
    ⟨(some 11), none, .load1 (.t 10)⟩,
    ⟨(some 12), none, .fieldAddr 1 (.t 3)⟩,
    ⟨(some 13), none, .load1 (.t 12)⟩,
    ⟨(some 14), none, .maxi true (.t 11) (.t 13)⟩,
    ⟨(some 15), none, .build [(.i 0), (.i 0)] [(0, 1, (.t 9)), (1, 1, (.t 14))]⟩,
    ⟨none, none, .store 2 (.t 4) (.t 15)⟩])
  .ret))
theorem r_buffers_pair_int_wide : resFn Try.prog 44 = some ⟨16, c_buffers_pair_int_wide.r, [.cellN 4 2]⟩ := by kernel_rfl
theorem k_buffers_pair_int_wide : c_buffers_pair_int_wide.ok = true := by kernel_rfl

def c_buffers_outer : LC :=
 (.seq (.ops [
   ⟨(some 1), none, .box (.t 0)⟩,
   ⟨(some 2), none, .move (.c .nilSl)⟩])
 (.seq (.ops [
    ⟨(some 5), none, .loadN 3 (.t 1)⟩,
    ⟨(some 6), none, .callV (.c (.fn (.func 57) [] [])) [(.t 5)]⟩,
    ⟨(some 3), none, .move (.t 6)⟩])
  (.seq (.seq (.ops [
      ⟨(some 4), none, .move (.c (.i 0))⟩])
    (.block 0 (.loop (.seq (.seq (.ops [
          ⟨(some 7), none, .move (.t 4)⟩,
          ⟨(some 8), none, .fieldAddr 1 (.t 1)⟩,
          ⟨(some 9), none, .load1 (.t 8)⟩,
          ⟨(some 10), none, .lenSl (.t 9)⟩,
          ⟨(some 11), none, .bin .lss false 3 (.t 7) (.t 10)⟩])
        (.cond (.t 11)
         .skip
         (.exit 0)))
       (.seq (.block 1 (.seq (.ops [
            ⟨(some 14), none, .fieldAddr 1 (.t 1)⟩,
            ⟨(some 15), none, .load1 (.t 14)⟩,
            ⟨(some 16), none, .move (.t 4)⟩,
            ⟨(some 17), none, .ixAddr 7 (.t 15) (.t 16)⟩,
            ⟨(some 18), none, .fieldAddr 0 (.t 17)⟩,
            ⟨(some 19), none, .load1 (.t 18)⟩,
            ⟨(some 20), none, .bin .eql true 3 (.t 19) (.c (.i 15))⟩])
          (.cond (.t 20)
           (.seq (.ops [
              ⟨(some 21), none, .move (.t 2)⟩,
              ⟨(some 22), none, .move (.t 4)⟩,
              ⟨(some 23), none, .move (.t 3)⟩,
              ⟨(some 24), none, .move (.t 4)⟩,
              ⟨(some 25), none, .ixAddr 1 (.t 23) (.t 24)⟩,
              ⟨(some 26), none, .load1 (.t 25)⟩,
              ⟨(some 27), none, .build [(.i 0), (.i 0)] [(0, 1, (.t 22)), (1, 1, (.t 26))]⟩,
              ⟨(some 28), none, .buildSl 2 1 [(.i 0), (.i 0)] [(0, 2, (.t 27))]⟩,
              ⟨(some 29), none, .appG 2 (.t 21) (.t 28)⟩,
              ⟨(some 2), none, .move (.t 29)⟩])
            (.ops [
              ⟨(some 30), none, .move (.t 3)⟩,
              ⟨(some 31), none, .move (.t 4)⟩,
              ⟨(some 32), none, .ixAddr 1 (.t 30) (.t 31)⟩,
              ⟨(some 33), none, .load1 (.t 32)⟩,
              ⟨(some 4), none, .move (.t 33)⟩]))
           .skip)))
        (.ops [
          ⟨(some 12), none, .move (.t 4)⟩,
          ⟨(some 13), none, .bin .add true 3 (.t 12) (.c (.i 1))⟩,
          ⟨(some 4), none, .move (.t 13)⟩]))))))
   (.seq (.ops [
      ⟨(some 34), none, .move (.t 2)⟩,
      ⟨(some 2), none, .move (.t 34)⟩])
    .ret))))
theorem r_buffers_outer : resFn Try.prog 40 = some ⟨35, c_buffers_outer.r, [.tmp 2]⟩ := by kernel_rfl
theorem k_buffers_outer : c_buffers_outer.ok = true := by kernel_rfl

def c_buffers_spans : LC :=
 (.seq (.ops [
   ⟨(some 1), none, .box (.t 0)⟩,
   ⟨(some 2), none, .move (.c .nilSl)⟩])
 (.seq (.ops [
    ⟨(some 12), none, .loadN 3 (.t 1)⟩,
    ⟨(some 13), none, .callV (.c (.fn (.func 40) [] [])) [(.t 12)]⟩,
    ⟨(some 3), none, .move (.t 13)⟩])
  (.seq (.ops [
     ⟨(some 4), none, .move (.c .nilSl)⟩])
   (.seq (.seq (.ops [
       ⟨(some 14), none, .fieldAddr 0 (.t 1)⟩,
       ⟨(some 15), none, .load1 (.t 14)⟩,
       ⟨(some 16), none, .lenSl (.t 15)⟩,
       ⟨(some 17), none, .move (.c (.i 0))⟩])
     (.block 0 (.loop (.seq (.ops [
          ⟨(some 18), none, .bin .lss false 3 (.t 17) (.t 16)⟩])
        (.seq (.cond (.t 18)
          .skip
          (.exit 0))
         (.seq (.block 1 (.seq (.ops [
              ⟨(some 19), none, .move (.t 17)⟩,
              ⟨(some 20), none, .ixAddr 3 (.t 15) (.t 17)⟩,
              ⟨(some 21), none, .loadN 3 (.t 20)⟩,
              ⟨(some 6), none, .alloc [(.i 0), (.bool false), (.i 0)]⟩,
              ⟨(some 5), none, .move (.t 19)⟩,
              ⟨none, none, .store 3 (.t 6) (.t 21)⟩])
            (.seq (.ops [
               ⟨(some 22), none, .build [(.i 0), (.i 0)] [(0, 1, (.c (.i (-1)))), (1, 1, (.c (.i (-1))))]⟩,
               ⟨(some 7), none, .alloc [(.i 0), (.i 0)]⟩,
               ⟨none, none, .store 2 (.t 7) (.t 22)⟩])
             (.seq (.seq (.ops [
                 ⟨(some 23), none, .fieldAddr 1 (.t 1)⟩,
                 ⟨(some 24), none, .load1 (.t 23)⟩,
                 ⟨(some 25), none, .lenSl (.t 24)⟩,
                 ⟨(some 26), none, .move (.c (.i 0))⟩])
               (.block 2 (.loop (.seq (.ops [
                    ⟨(some 27), none, .bin .lss false 3 (.t 26) (.t 25)⟩])
                  (.seq (.cond (.t 27)
                    .skip
                    (.exit 2))
                   (.seq (.block 3 (.seq (.ops [
                        ⟨(some 28), none, .move (.t 26)⟩,
                        ⟨(some 29), none, .ixAddr 7 (.t 24) (.t 26)⟩,
                        ⟨(some 30), none, .loadN 7 (.t 29)⟩,
                        ⟨(some 9), none, .alloc [(.i 0), (.i 0), (.i 0), (.i 0), (.i 0), (.i 0), (.u 0)]⟩,
                        ⟨(some 8), none, .move (.t 28)⟩,
                        ⟨none, none, .store 7 (.t 9) (.t 30)⟩])
                      (.seq (.ops [
                         ⟨(some 31), none, .loadN 7 (.t 9)⟩,
                         ⟨(some 32), none, .move (.t 5)⟩,
                         ⟨(some 33), none, .callV (.c (.fn (.func 41) [] [])) [(.t 31), (.t 32)]⟩])
                       (.cond (.t 33)
                        (.seq (.seq (.ops [
                            ⟨(some 34), none, .loadN 2 (.t 7)⟩,
                            ⟨(some 35), none, .callV (.c (.fn (.func 42) [] [])) [(.t 34)]⟩])
                          (.cond (.t 35)
                           (.ops [
                             ⟨(some 36), none, .move (.t 8)⟩,
                             ⟨(some 37), none, .fieldAddr 0 (.t 7)⟩,
                             ⟨none, none, .store 1 (.t 37) (.t 36)⟩])
                           .skip))
                         (.ops [
                           ⟨(some 38), none, .move (.t 8)⟩,
                           ⟨(some 39), none, .fieldAddr 1 (.t 7)⟩,
                           ⟨none, none, .store 1 (.t 39) (.t 38)⟩]))
                        .skip))))
                    (.ops [
                      ⟨(some 40), none, .bin .add true 3 (.t 26) (.c (.i 1))⟩,
                      ⟨(some 26), none, .move (.t 40)⟩])))))))
              (.seq (.seq (.ops [
                  ⟨(some 41), none, .move (.t 3)⟩,
                  ⟨(some 42), none, .lenSl (.t 41)⟩,
                  ⟨(some 43), none, .move (.c (.i 0))⟩])
                (.block 4 (.loop (.seq (.ops [
                     ⟨(some 44), none, .bin .lss false 3 (.t 43) (.t 42)⟩])
                   (.seq (.cond (.t 44)
                     .skip
                     (.exit 4))
                    (.seq (.block 5 (.seq (.ops [
                         ⟨(some 45), none, .ixAddr 2 (.t 41) (.t 43)⟩,
                         ⟨(some 46), none, .loadN 2 (.t 45)⟩,
                         ⟨(some 11), none, .alloc [(.i 0), (.i 0)]⟩,
                         ⟨none, none, .store 2 (.t 11) (.t 46)⟩])
                       (.seq (.ops [
                          ⟨(some 47), none, .loadN 2 (.t 7)⟩,
                          ⟨(some 48), none, .callV (.c (.fn (.func 42) [] [])) [(.t 47)]⟩,
                          ⟨(some 49), none, .un .not (.t 48)⟩,
                          ⟨(some 50), none, .move (.t 49)⟩,
                          ⟨(some 51), (some (50, true)), .loadN 2 (.t 7)⟩,
                          ⟨(some 52), (some (50, true)), .loadN 2 (.t 11)⟩,
                          ⟨(some 53), (some (50, true)), .callV (.c (.fn (.func 43) [] [])) [(.t 51), (.t 52)]⟩,
                          ⟨(some 54), none, .pick (.t 50) (.t 53) (.c (.bool false))⟩])
                        (.cond (.t 54)
                         (.ops [
                           ⟨(some 55), none, .loadN 2 (.t 7)⟩,
                           ⟨(some 56), none, .loadN 2 (.t 11)⟩,
                           ⟨(some 57), none, .callV (.c (.fn (.func 44) [] [])) [(.t 55), (.t 56)]⟩,
                           ⟨none, none, .store 2 (.t 7) (.t 57)⟩])
                         .skip))))
                     (.ops [
                       ⟨(some 58), none, .bin .add true 3 (.t 43) (.c (.i 1))⟩,
                       ⟨(some 43), none, .move (.t 58)⟩])))))))
               (.seq (.seq (.ops [
                   ⟨(some 59), none, .fieldAddr 2 (.t 6)⟩,
                   ⟨(some 60), none, .load1 (.t 59)⟩,
                   ⟨(some 61), none, .bin .gtr true 3 (.t 60) (.c (.i 0))⟩])
                 (.cond (.t 61)
                  (.ops [
                    ⟨(some 62), none, .fieldAddr 1 (.t 1)⟩,
                    ⟨(some 63), none, .load1 (.t 62)⟩,
                    ⟨(some 64), none, .lenSl (.t 63)⟩,
                    ⟨(some 65), none, .build [(.i 0), (.i 0)] [(0, 1, (.c (.i 0))), (1, 1, (.t 64))]⟩,
                    ⟨none, none, .store 2 (.t 7) (.t 65)⟩])
                  .skip))
                (.ops [
                  ⟨(some 66), none, .move (.t 4)⟩,
                  ⟨(some 67), none, .loadN 2 (.t 7)⟩,
                  ⟨(some 68), none, .buildSl 2 1 [(.i 0), (.i 0)] [(0, 2, (.t 67))]⟩,
                  ⟨(some 69), none, .appG 2 (.t 66) (.t 68)⟩,
                  ⟨(some 4), none, .move (.t 69)⟩])))))))
          (.ops [
            ⟨(some 70), none, .bin .add true 3 (.t 17) (.c (.i 1))⟩,
            ⟨(some 17), none, .move (.t 70)⟩])))))))
    (.seq (.ops [
       ⟨(some 71), none, .move (.t 4)⟩,
       ⟨(some 2), none, .move (.t 71)⟩])
     .ret)))))
theorem r_buffers_spans : resFn Try.prog 22 = some ⟨72, c_buffers_spans.r, [.tmp 2]⟩ := by kernel_rfl
theorem k_buffers_spans : c_buffers_spans.ok = true := by kernel_rfl

def c_buffers_Live : LC :=
 (.seq (.ops [
   ⟨(some 1), none, .box (.t 0)⟩,
   ⟨(some 2), none, .move (.c .nilSl)⟩])
 (.seq (.seq (.ops [
     ⟨(some 6), none, .loadN 3 (.t 1)⟩,
     ⟨(some 7), none, .callV (.c (.fn (.func 21) [] [])) [(.t 6)]⟩,
     ⟨(some 8), none, .bin .neq true 28 (.t 7) (.c (.i 0))⟩])
   (.cond (.t 8)
    (.seq (.ops [
       ⟨(some 2), none, .move (.c .nilSl)⟩])
     .ret)
    .skip))
  (.seq (.ops [
     ⟨(some 3), none, .move (.c .nilSl)⟩])
   (.seq (.seq (.ops [
       ⟨(some 9), none, .loadN 3 (.t 1)⟩,
       ⟨(some 10), none, .callV (.c (.fn (.func 22) [] [])) [(.t 9)]⟩,
       ⟨(some 11), none, .lenSl (.t 10)⟩,
       ⟨(some 12), none, .move (.c (.i 0))⟩])
     (.block 0 (.loop (.seq (.ops [
          ⟨(some 13), none, .bin .lss false 3 (.t 12) (.t 11)⟩])
        (.seq (.cond (.t 13)
          .skip
          (.exit 0))
         (.seq (.block 1 (.seq (.ops [
              ⟨(some 14), none, .ixAddr 2 (.t 10) (.t 12)⟩,
              ⟨(some 15), none, .loadN 2 (.t 14)⟩,
              ⟨(some 5), none, .alloc [(.i 0), (.i 0)]⟩,
              ⟨none, none, .store 2 (.t 5) (.t 15)⟩])
            (.ops [
              ⟨(some 16), none, .move (.t 3)⟩,
              ⟨(some 17), none, .fieldAddr 0 (.t 5)⟩,
              ⟨(some 18), none, .load1 (.t 17)⟩,
              ⟨(some 19), none, .fieldAddr 1 (.t 5)⟩,
              ⟨(some 20), none, .load1 (.t 19)⟩,
              ⟨(some 21), none, .build [(.i 0), (.i 0)] [(0, 1, (.t 18)), (1, 1, (.t 20))]⟩,
              ⟨(some 22), none, .buildSl 2 1 [(.i 0), (.i 0)] [(0, 2, (.t 21))]⟩,
              ⟨(some 23), none, .appG 2 (.t 16) (.t 22)⟩,
              ⟨(some 3), none, .move (.t 23)⟩])))
          (.ops [
            ⟨(some 24), none, .bin .add true 3 (.t 12) (.c (.i 1))⟩,
            ⟨(some 12), none, .move (.t 24)⟩])))))))
    (.seq (.ops [
       ⟨(some 25), none, .move (.t 3)⟩,
       ⟨(some 2), none, .move (.t 25)⟩])
     .ret)))))
theorem r_buffers_Live : resFn Try.prog 8 = some ⟨26, c_buffers_Live.r, [.tmp 2]⟩ := by kernel_rfl
theorem k_buffers_Live : c_buffers_Live.ok = true := by kernel_rfl



theorem IndexI_ok (l : List Int) (s : Int) (hl : l.length ≤ 9223372036854775807) : FnS Try.prog 63 [.lst (l.map .i) l.length 1, .i s] (.i (ixZ (fun n => decide (s = n)) l)) [] := by
  refine FnS.val rfl (call_body r_slices_Index_int_int k_slices_Index_int_int (by simp) ?_)
  simp [c_slices_Index_int_int]
  refine loop_nx (fun ρ D G N => ∃ i : Nat, D = [] ∧ N + i = l.length ∧ lk ρ 0 = .lst (l.map .i) l.length 1 ∧ lk ρ 1 = .i s ∧ lk ρ 7 = .i l.length ∧ lk ρ 8 = .i i ∧ ∀ j b, j < i → l[j]? = some b → decide (s = b) = false) (N := l.length) ⟨0, by simp⟩ ?_
  rintro N ρ D G ⟨i, rfl, hN, h0, h1, h7, h8, hn⟩ Nx hNx
  by_cases hi : l.length ≤ i
  · have g : ¬ i < l.length := by omega
    simp [h0, h1, h7, h8, g]
    rw [ixZ_none hi hn]
  · have g : i < l.length := by omega
    have hg := List.getElem?_eq_getElem g
    by_cases hb : s = l[i]
    · simp [h0, h1, h7, h8, g]
      simp [nthL_at (map_at (f := LV.i) hg), ← hb]
      rw [ixZ_at hg (by simp [hb]) hn]
    · simp [h0, h1, h7, h8, g]
      simp [nthL_at (map_at (f := LV.i) hg), h8, hb]
      refine ⟨by omega, hNx _ _ _ ⟨N - 1, by omega, i + 1, rfl, by omega, by simp [h0], by simp [h1], by simp [h7], by simp, fun j b hj hjb => ?_⟩⟩
      by_cases e : j = i
      · subst e; rw [hg] at hjb; cases hjb; simp [hb]
      · exact hn j b (by omega) hjb
theorem ContainsI_ok (l : List Int) (s : Int) (hl : l.length ≤ 9223372036854775807) : FnS Try.prog 58 [.lst (l.map .i) l.length 1, .i s] (.bool (l.any fun n => decide (s = n))) [] := by
  refine FnS.val rfl (call_body r_slices_Contains_int_int k_slices_Contains_int_int (by simp) ?_)
  simp [c_slices_Contains_int_int]
  refine CallL_F (IndexI_ok l s hl) (bors_self _ (by simp [dats, LV.dat]; exact dats_map (fun _ => rfl) l)) ?_
  simp
  exact ixZ_any _ l
theorem rw_two {b : Nat} {G : LHeap} {v : LV} {esz n : Nat} {l : List LV} (h : Rw b G v esz n l) : v = .nilSl ∨ ∃ p k, v = .dy p k := by
  rcases h with ⟨rfl, _⟩ | ⟨p, k, st, _, rfl, _, _⟩
  · exact .inl rfl
  · exact .inr ⟨p, k, rfl⟩
theorem buffers_has_ok (o : Ko) (v : Int) : FnS Try.prog 41 [.agg o.f, .i v] (.bool (hasB o v)) [] := by
  refine FnS.val rfl (call_body r_buffers_has k_buffers_has (by simp) ?_)
  simp [c_buffers_has, Ko.f]
  refine CallL_F (ContainsI_ok [o.d, o.e, o.a, o.b, o.c] v (by simp)) ⟨_, _, rfl, ⟨_, _, _, _, rfl, rfl, rfl⟩, bors_self _ rfl⟩ ?_
  simp [hasB, eq_comm]
theorem buffers_none_ok (p : Sp) : FnS Try.prog 42 [.agg (spF p)] (.bool (decide (p.1 < 0))) [] := by
  refine FnS.val rfl (call_body r_buffers_none k_buffers_none (by simp) ?_)
  simp [c_buffers_none, spF]
theorem buffers_meets_ok (p q : Sp) : FnS Try.prog 43 [.agg (spF p), .agg (spF q)] (.bool (meetsB p q)) [] := by
  refine FnS.val rfl (call_body r_buffers_pair_int_meets k_buffers_pair_int_meets (by simp) ?_)
  by_cases h : p.1 ≤ q.2 <;> simp [c_buffers_pair_int_meets, spF, meetsB, h]
theorem buffers_wide_ok (p q : Sp) : FnS Try.prog 44 [.agg (spF p), .agg (spF q)] (.agg (spF (wideS p q))) [] := by
  refine FnS.val rfl (call_body r_buffers_pair_int_wide k_buffers_pair_int_wide (by simp) ?_)
  simp [c_buffers_pair_int_wide, spF, wideS]
theorem buffers_outer_ok {vs : List Vr} {os rs : List Ko} (hl1 : vs.length ≤ 9223372036854775807) (hc : chkB vs os rs = true) {f : Fr Ko} (hw : f.wf kdK) (hf : os = f.flat) :
    FnV Try.prog 40 [.agg (kerC vs os rs)] (.lst (spC (f.tops 0)) (f.tops 0).length 2) := by
  have hkd : dats (kerC vs os rs) = true := by simp [kerC, dats, LV.dat, vsC_dats, osC_dats]
  refine FnV.mk (by simp [LV.dat, spC_dats]) (call_body r_buffers_outer k_buffers_outer (by simp) ?_)
  have hk3 : (kerC vs os rs).length = 3 := rfl
  have hkt : (kerC vs os rs).take 3 = kerC vs os rs := rfl
  have hez : endsZ vs os rs = f.ends 0 := by rw [endsZ, if_pos hc, hf]; exact endsL_tree hw
  have hos : os.length ≤ 4096 := by
    have h := hc
    unfold chkB at h
    simp only [Bool.and_eq_true, decide_eq_true_eq] at h
    exact h.2.1
  have hel : (f.ends 0).length = os.length := by rw [Fr.ends_len, hf, Fr.flat_len]
  simp [c_buffers_outer, hk3, hkt]
  refine CallL_V (lengths_Ends_ok vs os rs hl1) (by simp [dats, LV.dat, hkd]) ?_
  rw [hez]
  simp
  refine loop_nx (fun ρ D G N => ∃ (i : Nat) (r : Fr Ko) (T : List Sp) (v : LV), D = [] ∧ N = r.size ∧ lk ρ 1 = .ptr 0 0 ∧ lk ρ 2 = v ∧ lk ρ 3 = .lst ((f.ends 0).map .i) (f.ends 0).length 1 ∧ lk ρ 4 = .i i ∧ 0 < G.length ∧ G[0]? = some (.cells (kerC vs os rs) 0) ∧ i ≤ os.length ∧ Go.Sv.Left os (f.ends 0) (f.tops 0) i r T ∧ Rw 1 G v 2 T.length (spC T) ∧ T.length ≤ i) (N := f.size)
    ⟨0, f, [], .nilSl, rfl, rfl, by simp, by simp, by simp, by simp, by simp, by simp, by omega, ⟨by simp [hf], by simp, hw, by simp⟩, Rw.nil, by simp⟩ ?_
  rintro N ρ D G ⟨i, r, T, v, rfl, rfl, h1, h2, h3, h4, hl, hG, hi, hL, hR, hT⟩ Nx hNx
  have hlen := hL.len hi
  cases r with
  | nil =>
    have g : ¬ i < os.length := by simp [Fr.size] at hlen; omega
    have ht : f.tops 0 = T := by rw [hL.tops]; simp [Fr.tops]
    simp [h1, h2, h4, hG, kerC, g]
    rw [ht]
    have hb := hR.bor (spC_dats T)
    rcases rw_two hR with rfl | ⟨p, k, rfl⟩ <;> exact hb
  | op o r =>
    obtain ⟨ho, hk, hL'⟩ := hL.op
    have g : i < os.length := (List.getElem?_eq_some_iff.1 ho).1
    have qk : (osC os)[i * 7]? = some (.i o.kind) := by have := fm_at Ko.f_len ho (j := 0) (by omega); simpa [osC, Ko.f] using this
    simp [h1, h2, h3, h4, hG, kerC, g, nthL_at qk, hk]
    refine ⟨by omega, hNx _ _ _ ⟨r.size, by simp [Fr.size], i + 1, r, T, v, rfl, rfl, by simp [h1], by simp [h2], by simp [h3], by simp, hl, hG, by omega, hL', hR, by omega⟩⟩
  | loop o b e r =>
    obtain ⟨ho, hk, he, hL'⟩ := hL.loop
    have g : i < os.length := (List.getElem?_eq_some_iff.1 ho).1
    have qk : (osC os)[i * 7]? = some (.i o.kind) := by have := fm_at Ko.f_len ho (j := 0) (by omega); simpa [osC, Ko.f] using this
    have ge : i < (f.ends 0).length := by omega
    have qe := map_at (f := LV.i) he
    simp only [Fr.size] at hlen
    simp [h1, h2, h3, h4, hG, kerC, g, nthL_at qk, hk, ge, nthL_at qe]
    refine Rw.push (m := 1) (x := spF ((i : Int), ((i + b.size + 1 : Nat) : Int))) hR.push_end (by omega) (by simp) (by omega) rfl fun v' G' hR' hfr hb => ?_
    simp [h3, h4, ge, nthL_at qe]
    refine ⟨by omega, hNx _ _ _ ⟨r.size, by simp [Fr.size]; omega, i + b.size + 2, r, T ++ [((i : Int), ((i + b.size + 1 : Nat) : Int))], v', rfl, rfl, by simp [h1], by simp, by simp [h3], by simp; omega, by omega, ?_, by omega, hL', ?_, by simp; omega⟩⟩
    · rw [hfr 0 (by omega), old1 hl]; exact hG
    · rw [spC_app, List.length_append, show spC [((i : Int), ((i + b.size + 1 : Nat) : Int))] = spF ((i : Int), ((i + b.size + 1 : Nat) : Int)) by simp [spC]]; exact hR'
theorem tops_len {α : Type} : ∀ (f : Fr α) (i : Nat), (f.tops i).length ≤ f.size
  | .nil, _ => Nat.le_refl _
  | .op _ r, i => by have := tops_len r (i + 1); simp [Fr.tops, Fr.size]; omega
  | .loop _ b _ r, i => by have := tops_len r (i + b.size + 2); simp [Fr.tops, Fr.size]; omega
theorem spansG_cut {os : List Ko} {T : List Sp} {vs : List Vr} {i : Nat} (h : i < vs.length) : spansG os T i (vs.drop i) = spanV os T i (gv vs i) :: spansG os T (i + 1) (vs.drop (i + 1)) := by
  rw [drop_gv h]; rfl
theorem buffers_spans_ok {vs : List Vr} {os rs : List Ko} (hl1 : vs.length ≤ 9223372036854775807) (hc : chkB vs os rs = true) {f : Fr Ko} (hw : f.wf kdK) (hf : os = f.flat) :
    FnV Try.prog 22 [.agg (kerC vs os rs)] (.lst (spC (spansG os (f.tops 0) 0 vs)) (spansG os (f.tops 0) 0 vs).length 2) := by
  have hkd : dats (kerC vs os rs) = true := by simp [kerC, dats, LV.dat, vsC_dats, osC_dats]
  refine FnV.mk (by simp [LV.dat, spC_dats]) (call_body r_buffers_spans k_buffers_spans (by simp) ?_)
  have hk3 : (kerC vs os rs).length = 3 := rfl
  have hkt : (kerC vs os rs).take 3 = kerC vs os rs := rfl
  have hvl : vs.length ≤ 256 := by
    have h := hc
    unfold chkB at h
    simp only [Bool.and_eq_true] at h
    exact (varsB_len h.1).2
  have hos : os.length ≤ 4096 := by
    have h := hc
    unfold chkB at h
    simp only [Bool.and_eq_true, decide_eq_true_eq] at h
    exact h.2.1
  simp [c_buffers_spans, hk3, hkt]
  refine CallL_V (buffers_outer_ok hl1 hc hw hf) (by simp [dats, LV.dat, hkd]) ?_
  simp [kerC]
  have hTl : (f.tops 0).length ≤ 4096 := by have := tops_len f 0; rw [← Fr.flat_len, ← hf] at this; omega
  generalize f.tops 0 = T at *
  refine loop_nx (fun ρ D G N => ∃ (i : Nat) (L : List Sp) (v : LV), D = [] ∧ N + i = vs.length ∧ lk ρ 1 = .ptr 0 0 ∧ lk ρ 3 = .lst (spC T) T.length 2 ∧ lk ρ 4 = v ∧ lk ρ 15 = .lst (vsC vs) vs.length 3 ∧ lk ρ 16 = .i vs.length ∧ lk ρ 17 = .i i ∧ 0 < G.length ∧ G[0]? = some (.cells (kerC vs os rs) 0) ∧ Rw 1 G v 2 L.length (spC L) ∧ L.length = i ∧ spansG os T 0 vs = L ++ spansG os T i (vs.drop i)) (N := vs.length)
    ⟨0, [], .nilSl, rfl, by omega, by simp, by simp, by simp, by simp, by simp, by simp, by simp, by simp [kerC], Rw.nil, by simp, by simp⟩ ?_
  rintro N ρ D G ⟨i, L, v, rfl, hN, h1, h3, h4, h15, h16, h17, hl, hG, hR, hLi, hsp⟩ Nx hNx
  by_cases g : i < vs.length
  case neg =>
    rw [List.drop_of_length_le (by omega)] at hsp
    have hsp : spansG os T 0 vs = L := by simpa [spansG] using hsp
    simp [h4, h15, h16, h17, g]
    rw [hsp]
    have hb := hR.bor (spC_dats L)
    rcases rw_two hR with rfl | ⟨p, k, rfl⟩ <;> exact hb
  have q3 := vs_three (at_gv g)
  have hqq := vs_lt g
  rw [spansG_cut g] at hsp
  have hf3 : (gv vs i).f = [.i (gv vs i).limbs, .bool (gv vs i).sec, .i (gv vs i).mode] := rfl
  have hsv : spanV os T i (gv vs i) = if 0 < (gv vs i).mode then (0, (os.length : Int)) else wideG (spanG i 0 (-1, -1) os) T := rfl
  generalize spanV os T i (gv vs i) = s0 at *
  generalize gv vs i = x at *
  simp [h1, h15, h16, h17, g, q3, hqq, hf3, ↓old1 hl, hG, kerC]
  -- which operations have it
  refine loop_nx (fun ρ D G' N => ∃ (j : Nat) (s : Sp) (st : Nat), D = [] ∧ N + j = os.length ∧ lk ρ 1 = .ptr 0 0 ∧ lk ρ 3 = .lst (spC T) T.length 2 ∧ lk ρ 4 = v ∧ lk ρ 5 = .i i ∧ lk ρ 6 = .ptr G.length 0 ∧ lk ρ 7 = .ptr (G.length + 1) 0 ∧ lk ρ 15 = .lst (vsC vs) vs.length 3 ∧ lk ρ 16 = .i vs.length ∧ lk ρ 17 = .i i ∧ lk ρ 24 = .lst (osC os) os.length 7 ∧ lk ρ 25 = .i os.length ∧ lk ρ 26 = .i j ∧
      G.length + 1 < G'.length ∧ G'[0]? = some (.cells (kerC vs os rs) 0) ∧ G'[G.length]? = some (.cells [.i x.limbs, .bool x.sec, .i x.mode] 1) ∧ G'[G.length + 1]? = some (.cells (spF s) st) ∧ Rw 1 G' v 2 L.length (spC L) ∧ spanG i j s (os.drop j) = spanG i 0 (-1, -1) os) (N := os.length)
    ⟨0, (-1, -1), 1, rfl, by omega, by simp [h1], by simp [h3], by simp [h4], by simp, by simp, by simp, by simp [h15], by simp [h16], by simp [h17], by simp [h1], by simp, by simp, by simp, by rw [old1 hl]; exact hG, by simp, by simp [spF], hR.push_end, by simp⟩ ?_
  clear h1 h3 h4 h15 h16 h17
  rintro N1 ρ D G' ⟨j, s, st, rfl, hN1, h1, h3, h4, h5, h6, h7, h15, h16, h17, h24, h25, h26, hl', hG', hx, hs, hR', hgo⟩ Nx1 hNx1
  have hl0 : 0 < G'.length := by omega
  have hlG : G.length < G'.length := by omega
  by_cases g2 : j < os.length
  · have q7 := os_seven (at_go g2)
    have hq7 := os_lt g2
    rw [drop_go g2] at hgo
    have hf7 : (go os j).f = [.i (go os j).kind, .i (go os j).d, .i (go os j).e, .i (go os j).a, .i (go os j).b, .i (go os j).c, .u (go os j).imm] := rfl
    generalize go os j = o at *
    simp [h5, h24, h25, h26, g2, q7, hq7, hf7]
    rw [← hf7]
    refine CallL_F (buffers_has_ok o i) (bors_self _ (by simp [dats, LV.dat, hf7])) ?_
    have next : ∀ ρ' G2 (s2 : Sp) st2, s2 = (if hasB o i = true then (if s.1 < 0 then (j : Int) else s.1, (j : Int)) else s) → lk ρ' 1 = .ptr 0 0 → lk ρ' 3 = .lst (spC T) T.length 2 → lk ρ' 4 = v → lk ρ' 5 = .i i → lk ρ' 6 = .ptr G.length 0 → lk ρ' 7 = .ptr (G.length + 1) 0 → lk ρ' 15 = .lst (vsC vs) vs.length 3 → lk ρ' 16 = .i vs.length → lk ρ' 17 = .i i → lk ρ' 24 = .lst (osC os) os.length 7 → lk ρ' 25 = .i os.length → lk ρ' 26 = .i ((j : Int) + 1) →
        G.length + 1 < G2.length → G2[0]? = some (.cells (kerC vs os rs) 0) → G2[G.length]? = some (.cells [.i x.limbs, .bool x.sec, .i x.mode] 1) → G2[G.length + 1]? = some (.cells (spF s2) st2) → Rw 1 G2 v 2 L.length (spC L) → Nx1 ρ' [] G2 := by
      rintro ρ' G2 s2 st2 rfl a1 a3 a4 a5 a6 a7 a15 a16 a17 a24 a25 a26 b1 b2 b3 b4 b5
      exact hNx1 _ _ _ ⟨N1 - 1, by omega, j + 1, _, st2, rfl, by omega, a1, a3, a4, a5, a6, a7, a15, a16, a17, a24, a25, by rw [a26]; simp, b1, b2, b3, b4, b5, hgo⟩
    cases hh : hasB o i with
    | false =>
      simp [h26]
      refine ⟨by omega, next _ _ s st (by simp [hh]) (by simp [h1]) (by simp [h3]) (by simp [h4]) (by simp [h5]) (by simp [h6]) (by simp [h7]) (by simp [h15]) (by simp [h16]) (by simp [h17]) (by simp [h24]) (by simp [h25]) (by simp) (by simp; omega) (by rw [old1 hl0]; exact hG') (by rw [old1 hlG]; exact hx) (by rw [old1 hl']; exact hs) hR'.push_end⟩
    | true =>
      have hsf : spF s = [.i s.1, .i s.2] := rfl
      simp [h7, ↓old1 hl', hs, hsf]
      rw [← hsf]
      refine CallL_F (buffers_none_ok s) (bors_self _ rfl) ?_
      have sp1 : ∀ y z, ((G' ++ [y]).set (G.length + 1) z)[G.length + 1]? = some z := fun y z => List.getElem?_set_self (by simp; omega)
      have sp2 : ∀ y z w, (((G' ++ [y]).set (G.length + 1) z).set (G.length + 1) w)[G.length + 1]? = some w := fun y z w => List.getElem?_set_self (by simp; omega)
      have k0 : ∀ y z, ((G' ++ [y]).set (G.length + 1) z)[0]? = some (.cells (kerC vs os rs) 0) := fun y z => by rw [List.getElem?_set_ne (by omega), old1 hl0]; exact hG'
      have k1 : ∀ y z, ((G' ++ [y]).set (G.length + 1) z)[G.length]? = some (.cells [.i x.limbs, .bool x.sec, .i x.mode] 1) := fun y z => by rw [List.getElem?_set_ne (by omega), old1 hlG]; exact hx
      have k2 : ∀ y z, Rw 1 ((G' ++ [y]).set (G.length + 1) z) v 2 L.length (spC L) := fun y z => hR'.push_end.set_cells (q := G.length + 1) (st := st) (c := spF s) (by rw [old1 hl']; exact hs)
      by_cases n0 : s.1 < 0
      · simp [h7, h26, ↓old1 hl', hs, hsf, n0, ↓sp1]
        refine ⟨by omega, next _ _ ((j : Int), (j : Int)) (st + 1 + 1) (by simp [hh, n0]) (by simp [h1]) (by simp [h3]) (by simp [h4]) (by simp [h5]) (by simp [h6]) (by simp [h7]) (by simp [h15]) (by simp [h16]) (by simp [h17]) (by simp [h24]) (by simp [h25]) (by simp) (by simp; omega) (k0 _ _) (k1 _ _) (sp1 _ _) (k2 _ _)⟩
      · simp [h7, h26, ↓old1 hl', hs, hsf, n0]
        refine ⟨by omega, next _ _ (s.1, (j : Int)) (st + 1) (by simp [hh, n0]) (by simp [h1]) (by simp [h3]) (by simp [h4]) (by simp [h5]) (by simp [h6]) (by simp [h7]) (by simp [h15]) (by simp [h16]) (by simp [h17]) (by simp [h24]) (by simp [h25]) (by simp) (by simp; omega) (k0 _ _) (k1 _ _) (sp1 _ _) (k2 _ _)⟩
  have hs0 : s = spanG i 0 (-1, -1) os := by
    rw [List.drop_of_length_le (by omega)] at hgo
    simpa [spanG] using hgo
  rw [← hs0] at hsv
  simp [h3, h24, h25, h26, g2]
  clear hNx1 hgo
  -- the loops around
  refine loop_nx (fun ρ D G' N => ∃ (j : Nat) (s' : Sp) (st : Nat), D = [] ∧ N + j = T.length ∧ lk ρ 1 = .ptr 0 0 ∧ lk ρ 3 = .lst (spC T) T.length 2 ∧ lk ρ 4 = v ∧ lk ρ 6 = .ptr G.length 0 ∧ lk ρ 7 = .ptr (G.length + 1) 0 ∧ lk ρ 15 = .lst (vsC vs) vs.length 3 ∧ lk ρ 16 = .i vs.length ∧ lk ρ 17 = .i i ∧ lk ρ 41 = .lst (spC T) T.length 2 ∧ lk ρ 42 = .i T.length ∧ lk ρ 43 = .i j ∧
      G.length + 1 < G'.length ∧ G'[0]? = some (.cells (kerC vs os rs) 0) ∧ G'[G.length]? = some (.cells [.i x.limbs, .bool x.sec, .i x.mode] 1) ∧ G'[G.length + 1]? = some (.cells (spF s') st) ∧ Rw 1 G' v 2 L.length (spC L) ∧ wideG s' (T.drop j) = wideG s T) (N := T.length)
    ⟨0, s, st, rfl, by omega, by simp [h1], by simp [h3], by simp [h4], by simp [h6], by simp [h7], by simp [h15], by simp [h16], by simp [h17], by simp, by simp, by simp, hl', hG', hx, hs, hR', by simp⟩ ?_
  clear h1 h3 h4 h5 h6 h7 h15 h16 h17 h24 h25 h26 hl' hG' hx hs hR' hl0 hlG
  rintro N1 ρ D G' ⟨j, s', st, rfl, hN1, h1, h3, h4, h6, h7, h15, h16, h17, h41, h42, h43, hl', hG', hx, hs, hR', hwo⟩ Nx1 hNx1
  have hl0 : 0 < G'.length := by omega
  have hlG : G.length < G'.length := by omega
  have hsf : spF s' = [.i s'.1, .i s'.2] := rfl
  have sp1 : ∀ y z, ((G' ++ [y]).set (G.length + 1) z)[G.length + 1]? = some z := fun y z => List.getElem?_set_self (by simp; omega)
  have k0 : ∀ y z, ((G' ++ [y]).set (G.length + 1) z)[0]? = some (.cells (kerC vs os rs) 0) := fun y z => by rw [List.getElem?_set_ne (by omega), old1 hl0]; exact hG'
  have k1 : ∀ y z, ((G' ++ [y]).set (G.length + 1) z)[G.length]? = some (.cells [.i x.limbs, .bool x.sec, .i x.mode] 1) := fun y z => by rw [List.getElem?_set_ne (by omega), old1 hlG]; exact hx
  have k2 : ∀ y z, Rw 1 ((G' ++ [y]).set (G.length + 1) z) v 2 L.length (spC L) := fun y z => hR'.push_end.set_cells (q := G.length + 1) (st := st) (c := spF s') (by rw [old1 hl']; exact hs)
  by_cases g3 : j < T.length
  · have q2 := sp_two (at_gs g3)
    have hq2 := sp_lt g3
    rw [drop_gs g3] at hwo
    have hpf : spF (gs T j) = [.i (gs T j).1, .i (gs T j).2] := rfl
    generalize gs T j = p at *
    have next : ∀ ρ' G2 (s2 : Sp) st2, s2 = wstep s' p → lk ρ' 1 = .ptr 0 0 → lk ρ' 3 = .lst (spC T) T.length 2 → lk ρ' 4 = v → lk ρ' 6 = .ptr G.length 0 → lk ρ' 7 = .ptr (G.length + 1) 0 → lk ρ' 15 = .lst (vsC vs) vs.length 3 → lk ρ' 16 = .i vs.length → lk ρ' 17 = .i i → lk ρ' 41 = .lst (spC T) T.length 2 → lk ρ' 42 = .i T.length → lk ρ' 43 = .i ((j : Int) + 1) →
        G.length + 1 < G2.length → G2[0]? = some (.cells (kerC vs os rs) 0) → G2[G.length]? = some (.cells [.i x.limbs, .bool x.sec, .i x.mode] 1) → G2[G.length + 1]? = some (.cells (spF s2) st2) → Rw 1 G2 v 2 L.length (spC L) → Nx1 ρ' [] G2 := by
      rintro ρ' G2 s2 st2 rfl a1 a3 a4 a6 a7 a15 a16 a17 a41 a42 a43 b1 b2 b3 b4 b5
      exact hNx1 _ _ _ ⟨N1 - 1, by omega, j + 1, _, st2, rfl, by omega, a1, a3, a4, a6, a7, a15, a16, a17, a41, a42, by rw [a43]; simp, b1, b2, b3, b4, b5, hwo⟩
    simp [h7, h41, h42, h43, g3, q2, hq2, ↓old1 hl', hs, hsf]
    rw [← hsf]
    refine CallL_F (buffers_none_ok s') (bors_self _ rfl) ?_
    have hwf : spF (wideS s' p) = [.i (wideS s' p).1, .i (wideS s' p).2] := rfl
    by_cases n0 : s'.1 < 0
    · simp [n0, h43]
      refine ⟨by omega, next _ _ s' st (by simp [wstep, n0]) (by simp [h1]) (by simp [h3]) (by simp [h4]) (by simp [h6]) (by simp [h7]) (by simp [h15]) (by simp [h16]) (by simp [h17]) (by simp [h41]) (by simp [h42]) (by simp) (by simp; omega) (by rw [old1 hl0]; exact hG') (by rw [old1 hlG]; exact hx) (by rw [old1 hl']; exact hs) hR'.push_end⟩
    · simp [n0, h7, ↓old1 hl', hs, hsf]
      rw [← hsf, ← hpf]
      refine CallL_F (buffers_meets_ok s' p) (bors_self _ rfl) ?_
      cases hm : meetsB s' p with
      | false =>
        simp [h43]
        refine ⟨by omega, next _ _ s' st (by simp [wstep, n0, hm]) (by simp [h1]) (by simp [h3]) (by simp [h4]) (by simp [h6]) (by simp [h7]) (by simp [h15]) (by simp [h16]) (by simp [h17]) (by simp [h41]) (by simp [h42]) (by simp) (by simp; omega) (by rw [old1 hl0]; exact hG') (by rw [old1 hlG]; exact hx) (by rw [old1 hl']; exact hs) hR'.push_end⟩
      | true =>
        simp [h7, ↓old1 hl', hs, hsf, hpf]
        rw [← hsf, ← hpf]
        refine CallL_F (buffers_wide_ok s' p) (bors_self _ rfl) ?_
        simp [h7, h43, ↓old1 hl', hs, hsf, hwf]
        rw [← hwf]
        refine ⟨by omega, next _ _ (wideS s' p) (st + 1) (by simp [wstep, n0, hm]) (by simp [h1]) (by simp [h3]) (by simp [h4]) (by simp [h6]) (by simp [h7]) (by simp [h15]) (by simp [h16]) (by simp [h17]) (by simp [h41]) (by simp [h42]) (by simp) (by simp; omega) (k0 _ _) (k1 _ _) (sp1 _ _) (k2 _ _)⟩
  have hse : s' = wideG s T := by
    rw [List.drop_of_length_le (by omega)] at hwo
    exact hwo
  rw [← hse] at hsv
  clear hNx1 hwo
  have fin : ∀ ρ' G2 v2, lk ρ' 1 = .ptr 0 0 → lk ρ' 3 = .lst (spC T) T.length 2 → lk ρ' 4 = v2 → lk ρ' 15 = .lst (vsC vs) vs.length 3 → lk ρ' 16 = .i vs.length → lk ρ' 17 = .i ((i : Int) + 1) → 0 < G2.length → G2[0]? = some (.cells (kerC vs os rs) 0) → Rw 1 G2 v2 2 (L.length + 1) (spC L ++ spF s0) → Nx ρ' [] G2 := by
    intro ρ' G2 v2 a1 a3 a4 a15 a16 a17 b1 b2 b3
    refine hNx _ _ _ ⟨N - 1, by omega, i + 1, L ++ [s0], v2, rfl, by omega, a1, a3, a4, a15, a16, by rw [a17]; simp, b1, b2, ?_, by simp [hLi], by rw [hsp]; simp⟩
    rw [spC_app, List.length_append, show spC [s0] = spF s0 by simp [spC]]; exact b3
  by_cases m0 : 0 < x.mode
  · rw [if_pos m0] at hsv
    have sp3 : ∀ z, (G'.set (G.length + 1) z)[G.length + 1]? = some z := fun z => List.getElem?_set_self (by omega)
    have k3 : ∀ z, (G'.set (G.length + 1) z)[0]? = some (.cells (kerC vs os rs) 0) := fun z => by rw [List.getElem?_set_ne (by omega)]; exact hG'
    have k4 : ∀ z, Rw 1 (G'.set (G.length + 1) z) v 2 L.length (spC L) := fun z => hR'.set_cells hs
    have hs0f : spF s0 = [.i 0, .i os.length] := by rw [hsv]; rfl
    simp [h1, h4, h6, h7, h41, h42, h43, g3, hx, m0, hG', kerC, hs, hsf, ↓sp3]
    refine Rw.push (m := 1) (x := [.i 0, .i os.length]) (k4 _).push_end (by omega) (by simp) (by omega) rfl fun v' G2 hR2 hfr hb => ?_
    rw [← hs0f] at hR2
    simp [h17]
    refine ⟨by omega, fin _ _ v' (by simp [h1]) (by simp [h3]) (by simp) (by simp [h15]) (by simp [h16]) (by simp) (by omega) ?_ hR2⟩
    rw [hfr 0 (by omega), old1 (by simp; omega), k3]
  · rw [if_neg m0] at hsv
    have hs0f : spF s0 = [.i s'.1, .i s'.2] := by rw [hsv]; rfl
    simp [h1, h4, h6, h7, h41, h42, h43, g3, hx, m0, hs, hsf]
    refine Rw.push (m := 1) (x := [.i s'.1, .i s'.2]) hR'.push_end (by omega) (by simp) (by omega) rfl fun v' G2 hR2 hfr hb => ?_
    rw [← hs0f] at hR2
    simp [h17]
    refine ⟨by omega, fin _ _ v' (by simp [h1]) (by simp [h3]) (by simp) (by simp [h15]) (by simp [h16]) (by simp) (by omega) ?_ hR2⟩
    rw [hfr 0 (by omega), old1 hl0]; exact hG'
theorem buffers_Live_ok {vs : List Vr} {os rs : List Ko} (hl1 : vs.length ≤ 9223372036854775807) (hc : chkB vs os rs = true) {f : Fr Ko} (hw : f.wf kdK) (hf : os = f.flat) :
    FnV Try.prog 8 [.agg (kerC vs os rs)] (.lst (spC (spansG os (f.tops 0) 0 vs)) (spansG os (f.tops 0) 0 vs).length 2) := by
  have hkd : dats (kerC vs os rs) = true := by simp [kerC, dats, LV.dat, vsC_dats, osC_dats]
  refine FnV.mk (by simp [LV.dat, spC_dats]) (call_body r_buffers_Live k_buffers_Live (by simp) ?_)
  have hk3 : (kerC vs os rs).length = 3 := rfl
  have hkt : (kerC vs os rs).take 3 = kerC vs os rs := rfl
  have hvl : vs.length ≤ 256 := by
    have h := hc
    unfold chkB at h
    simp only [Bool.and_eq_true] at h
    exact (varsB_len h.1).2
  simp [c_buffers_Live, hk3, hkt]
  refine CallL_F (lengths_Check_ok vs os rs hl1) (bors_self _ (by simp [dats, LV.dat, hkd])) ?_
  simp [chkE, hc, hk3, hkt]
  refine CallL_V (buffers_spans_ok hl1 hc hw hf) (by simp [dats, LV.dat, hkd]) ?_
  have hsl : (spansG os (f.tops 0) 0 vs).length = vs.length := spansG_len _ _ _ _
  generalize spansG os (f.tops 0) 0 vs = S at *
  simp
  refine loop_nx (fun ρ D G N => ∃ (i : Nat) (v : LV), D = [] ∧ N + i = S.length ∧ lk ρ 3 = v ∧ lk ρ 10 = .lst (spC S) S.length 2 ∧ lk ρ 11 = .i S.length ∧ lk ρ 12 = .i i ∧ 0 < G.length ∧ i ≤ S.length ∧ Rw 1 G v 2 i (spC (S.take i))) (N := S.length) ⟨0, .nilSl, rfl, by omega, by simp, by simp, by simp, by simp, by simp, by omega, by simpa [spC] using (Rw.nil (b := 1) (esz := 2))⟩ ?_
  rintro N ρ D G ⟨i, v, rfl, hN, h3, h10, h11, h12, hl, hi, hR⟩ Nx hNx
  by_cases g : i < S.length
  · have q2 := sp_two (at_gs g)
    have hq2 := sp_lt g
    have htk : S.take (i + 1) = S.take i ++ [gs S i] := by
      rw [List.take_succ_eq_append_getElem g]
      congr 2
      have := at_gs g; rw [List.getElem?_eq_getElem g] at this; exact Option.some.inj this
    generalize gs S i = p at *
    simp [h3, h10, h11, h12, g, q2, hq2]
    refine Rw.push (m := 1) (x := spF p) hR.push_end (by omega) (by simp) (by omega) rfl fun v' G2 hR2 hfr hb => ?_
    simp [h12]
    refine ⟨by omega, hNx _ _ _ ⟨N - 1, by omega, i + 1, v', rfl, by omega, by simp, by simp [h10], by simp [h11], by simp, by omega, by omega, ?_⟩⟩
    rw [htk, spC_app, show spC [p] = spF p by simp [spC]]; exact hR2
  · have ei : i = S.length := by omega
    subst ei
    rw [List.take_length] at hR
    simp [h3, h10, h11, h12]
    have hb := hR.bor (spC_dats S)
    rcases rw_two hR with rfl | ⟨p, k, rfl⟩ <;> exact hb
end Go.Proofs.Ytknbplplhbfggaa
