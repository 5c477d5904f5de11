/- Rows that are sorted in place. -/
import Derived.Test.YtbcfbojigokplaaSvG4
import Derived.Test.YtbcfbojigokplaaFnT
namespace Go.Proofs.Ytbcfbojigokplaa
open Go.Sv
set_option linter.unusedSimpArgs false
set_option maxRecDepth 10000

def c_slices_Sort_int_int : LC :=
 (.seq (.ops [
   ⟨(some 3), none, .move (.t 0)⟩,
   ⟨(some 4), none, .lenSl (.t 3)⟩,
   ⟨(some 2), none, .move (.t 4)⟩])
 (.ops [
   ⟨(some 5), none, .move (.t 0)⟩,
   ⟨(some 6), none, .move (.t 2)⟩,
   ⟨(some 7), none, .move (.t 2)⟩,
   ⟨(some 8), none, .cvInt .u64 (.t 7)⟩,
   ⟨(some 9), none, .callV (.c (.fn (.func 44) [] [])) [(.t 8)]⟩,
   ⟨(some 10), none, .callV (.c (.fn (.func 43) [] [])) [(.t 5), (.c (.i 0)), (.t 6), (.t 9)]⟩]))
theorem r_slices_Sort_int_int : resFn Try.prog 40 = some ⟨11, c_slices_Sort_int_int.r, []⟩ := by kernel_rfl
theorem k_slices_Sort_int_int : c_slices_Sort_int_int.ok = true := by kernel_rfl

def c_slices_pdqsortOrdered_int : LC :=
 (.seq (.ops [
   ⟨(some 8), none, .move (.c (.bool true))⟩])
 (.seq (.ops [
    ⟨(some 9), none, .move (.c (.bool true))⟩])
  (.block 0 (.loop (.block 1 (.seq (.ops [
        ⟨(some 19), none, .move (.t 2)⟩,
        ⟨(some 20), none, .move (.t 1)⟩,
        ⟨(some 21), none, .bin .sub false 3 (.t 19) (.t 20)⟩,
        ⟨(some 10), none, .move (.t 21)⟩])
      (.seq (.seq (.ops [
          ⟨(some 22), none, .move (.t 10)⟩,
          ⟨(some 23), none, .bin .leq true 3 (.t 22) (.c (.i 12))⟩])
        (.cond (.t 23)
         (.seq (.ops [
            ⟨(some 24), none, .move (.t 0)⟩,
            ⟨(some 25), none, .move (.t 1)⟩,
            ⟨(some 26), none, .move (.t 2)⟩,
            ⟨(some 27), none, .callV (.c (.fn (.func 45) [] [])) [(.t 24), (.t 25), (.t 26)]⟩])
          .ret)
         .skip))
       (.seq (.seq (.ops [
           ⟨(some 28), none, .move (.t 3)⟩,
           ⟨(some 29), none, .bin .eql true 3 (.t 28) (.c (.i 0))⟩])
         (.cond (.t 29)
          (.seq (.ops [
             ⟨(some 30), none, .move (.t 0)⟩,
             ⟨(some 31), none, .move (.t 1)⟩,
             ⟨(some 32), none, .move (.t 2)⟩,
             ⟨(some 33), none, .callV (.c (.fn (.func 46) [] [])) [(.t 30), (.t 31), (.t 32)]⟩])
           .ret)
          .skip))
        (.seq (.seq (.ops [
            ⟨(some 34), none, .move (.t 8)⟩,
            ⟨(some 35), none, .un .not (.t 34)⟩])
          (.cond (.t 35)
           (.seq (.ops [
              ⟨(some 36), none, .move (.t 0)⟩,
              ⟨(some 37), none, .move (.t 1)⟩,
              ⟨(some 38), none, .move (.t 2)⟩,
              ⟨(some 39), none, .callV (.c (.fn (.func 47) [] [])) [(.t 36), (.t 37), (.t 38)]⟩])
            (.ops [
              ⟨(some 40), none, .move (.t 3)⟩,
              ⟨(some 41), none, .bin .sub true 3 (.t 40) (.c (.i 1))⟩,
              ⟨(some 3), none, .move (.t 41)⟩]))
           .skip))
         (.seq (.ops [
            ⟨(some 43), none, .move (.t 0)⟩,
            ⟨(some 44), none, .move (.t 1)⟩,
            ⟨(some 45), none, .move (.t 2)⟩,
            ⟨(some 46), none, .callV (.c (.fn (.func 48) [] [])) [(.t 43), (.t 44), (.t 45)]⟩,
            ⟨(some 42), none, .move (.t 46)⟩,
            ⟨(some 47), none, .extract 0 (.t 42)⟩,
            ⟨(some 48), none, .extract 1 (.t 42)⟩,
            ⟨(some 11), none, .move (.t 47)⟩,
            ⟨(some 12), none, .move (.t 48)⟩])
          (.seq (.seq (.ops [
              ⟨(some 49), none, .move (.t 12)⟩,
              ⟨(some 50), none, .bin .eql true 64 (.t 49) (.c (.i 2))⟩])
            (.cond (.t 50)
             (.seq (.ops [
                ⟨(some 51), none, .move (.t 0)⟩,
                ⟨(some 52), none, .move (.t 1)⟩,
                ⟨(some 53), none, .move (.t 2)⟩,
                ⟨(some 54), none, .callV (.c (.fn (.func 49) [] [])) [(.t 51), (.t 52), (.t 53)]⟩])
              (.seq (.ops [
                 ⟨(some 55), none, .move (.t 2)⟩,
                 ⟨(some 56), none, .bin .sub true 3 (.t 55) (.c (.i 1))⟩,
                 ⟨(some 57), none, .move (.t 11)⟩,
                 ⟨(some 58), none, .move (.t 1)⟩,
                 ⟨(some 59), none, .bin .sub false 3 (.t 57) (.t 58)⟩,
                 ⟨(some 60), none, .bin .sub false 3 (.t 56) (.t 59)⟩,
                 ⟨(some 11), none, .move (.t 60)⟩])
               (.ops [
                 ⟨(some 12), none, .move (.c (.i 1))⟩])))
             .skip))
           (.seq (.seq (.ops [
               ⟨(some 61), none, .move (.t 8)⟩,
               ⟨(some 62), none, .move (.t 61)⟩,
               ⟨(some 63), (some (62, true)), .move (.t 9)⟩,
               ⟨(some 64), none, .pick (.t 62) (.t 63) (.c (.bool false))⟩,
               ⟨(some 65), none, .move (.t 64)⟩,
               ⟨(some 66), (some (65, true)), .move (.t 12)⟩,
               ⟨(some 67), (some (65, true)), .bin .eql true 64 (.t 66) (.c (.i 1))⟩,
               ⟨(some 68), none, .pick (.t 65) (.t 67) (.c (.bool false))⟩])
             (.cond (.t 68)
              (.seq (.ops [
                 ⟨(some 69), none, .move (.t 0)⟩,
                 ⟨(some 70), none, .move (.t 1)⟩,
                 ⟨(some 71), none, .move (.t 2)⟩,
                 ⟨(some 72), none, .callV (.c (.fn (.func 50) [] [])) [(.t 69), (.t 70), (.t 71)]⟩])
               (.cond (.t 72)
                .ret
                .skip))
              .skip))
            (.seq (.seq (.draw [
                (⟨(some 73), none, .move (.t 1)⟩, []),
                (⟨(some 74), none, .bin .gtr true 3 (.t 73) (.c (.i 0))⟩, []),
                (⟨(some 75), none, .move (.t 74)⟩, []),
                (⟨(some 76), (some (75, true)), .move (.t 0)⟩, []),
                (⟨(some 77), (some (75, true)), .move (.t 1)⟩, []),
                (⟨(some 78), (some (75, true)), .bin .sub true 3 (.t 77) (.c (.i 1))⟩, []),
                (⟨(some 79), (some (75, true)), .ixAddr 1 (.t 76) (.t 78)⟩, []),
                (⟨(some 80), (some (75, true)), .load1 (.t 79)⟩, []),
                (⟨(some 81), (some (75, true)), .move (.t 0)⟩, []),
                (⟨(some 82), (some (75, true)), .move (.t 11)⟩, []),
                (⟨(some 83), (some (75, true)), .ixAddr 1 (.t 81) (.t 82)⟩, []),
                (⟨(some 84), (some (75, true)), .load1 (.t 83)⟩, []),
                (⟨(some 85), (some (75, true)), .callV (.c (.fn (.func 51) [] [])) [(.t 80), (.t 84)]⟩, []),
                (⟨(some 86), (some (75, true)), .un .not (.t 85)⟩, []),
                (⟨(some 87), none, .pick (.t 75) (.t 86) (.c (.bool false))⟩, [])])
              (.cond (.t 87)
               (.seq (.ops [
                  ⟨(some 88), none, .move (.t 0)⟩,
                  ⟨(some 89), none, .move (.t 1)⟩,
                  ⟨(some 90), none, .move (.t 2)⟩,
                  ⟨(some 91), none, .move (.t 11)⟩,
                  ⟨(some 92), none, .callV (.c (.fn (.func 52) [] [])) [(.t 88), (.t 89), (.t 90), (.t 91)]⟩,
                  ⟨(some 13), none, .move (.t 92)⟩])
                (.seq (.ops [
                   ⟨(some 93), none, .move (.t 13)⟩,
                   ⟨(some 1), none, .move (.t 93)⟩])
                 (.exit 1)))
               .skip))
             (.seq (.ops [
                ⟨(some 95), none, .move (.t 0)⟩,
                ⟨(some 96), none, .move (.t 1)⟩,
                ⟨(some 97), none, .move (.t 2)⟩,
                ⟨(some 98), none, .move (.t 11)⟩,
                ⟨(some 99), none, .callV (.c (.fn (.func 53) [] [])) [(.t 95), (.t 96), (.t 97), (.t 98)]⟩,
                ⟨(some 94), none, .move (.t 99)⟩,
                ⟨(some 100), none, .extract 0 (.t 94)⟩,
                ⟨(some 101), none, .extract 1 (.t 94)⟩,
                ⟨(some 14), none, .move (.t 100)⟩,
                ⟨(some 15), none, .move (.t 101)⟩])
              (.seq (.ops [
                 ⟨(some 102), none, .move (.t 15)⟩,
                 ⟨(some 9), none, .move (.t 102)⟩])
               (.seq (.ops [
                  ⟨(some 103), none, .move (.t 14)⟩,
                  ⟨(some 104), none, .move (.t 1)⟩,
                  ⟨(some 105), none, .bin .sub false 3 (.t 103) (.t 104)⟩,
                  ⟨(some 106), none, .move (.t 2)⟩,
                  ⟨(some 107), none, .move (.t 14)⟩,
                  ⟨(some 108), none, .bin .sub false 3 (.t 106) (.t 107)⟩,
                  ⟨(some 16), none, .move (.t 105)⟩,
                  ⟨(some 17), none, .move (.t 108)⟩])
                (.seq (.ops [
                   ⟨(some 109), none, .move (.t 10)⟩,
                   ⟨(some 110), none, .bin .quo true 3 (.t 109) (.c (.i 8))⟩,
                   ⟨(some 18), none, .move (.t 110)⟩])
                 (.seq (.ops [
                    ⟨(some 111), none, .move (.t 16)⟩,
                    ⟨(some 112), none, .move (.t 17)⟩,
                    ⟨(some 113), none, .bin .lss false 3 (.t 111) (.t 112)⟩])
                  (.cond (.t 113)
                   (.seq (.ops [
                      ⟨(some 114), none, .move (.t 16)⟩,
                      ⟨(some 115), none, .move (.t 18)⟩,
                      ⟨(some 116), none, .bin .geq false 3 (.t 114) (.t 115)⟩,
                      ⟨(some 8), none, .move (.t 116)⟩])
                    (.seq (.ops [
                       ⟨(some 117), none, .move (.t 0)⟩,
                       ⟨(some 118), none, .move (.t 1)⟩,
                       ⟨(some 119), none, .move (.t 14)⟩,
                       ⟨(some 120), none, .move (.t 3)⟩,
                       ⟨(some 121), none, .callV (.c (.fn (.func 43) [] [])) [(.t 117), (.t 118), (.t 119), (.t 120)]⟩])
                     (.ops [
                       ⟨(some 122), none, .move (.t 14)⟩,
                       ⟨(some 123), none, .bin .add true 3 (.t 122) (.c (.i 1))⟩,
                       ⟨(some 1), none, .move (.t 123)⟩])))
                   (.seq (.ops [
                      ⟨(some 124), none, .move (.t 17)⟩,
                      ⟨(some 125), none, .move (.t 18)⟩,
                      ⟨(some 126), none, .bin .geq false 3 (.t 124) (.t 125)⟩,
                      ⟨(some 8), none, .move (.t 126)⟩])
                    (.seq (.ops [
                       ⟨(some 127), none, .move (.t 0)⟩,
                       ⟨(some 128), none, .move (.t 14)⟩,
                       ⟨(some 129), none, .bin .add true 3 (.t 128) (.c (.i 1))⟩,
                       ⟨(some 130), none, .move (.t 2)⟩,
                       ⟨(some 131), none, .move (.t 3)⟩,
                       ⟨(some 132), none, .callV (.c (.fn (.func 43) [] [])) [(.t 127), (.t 129), (.t 130), (.t 131)]⟩])
                     (.ops [
                       ⟨(some 133), none, .move (.t 14)⟩,
                       ⟨(some 2), none, .move (.t 133)⟩]))))))))))))))))))))))
theorem r_slices_pdqsortOrdered_int : resFn Try.prog 43 = some ⟨134, c_slices_pdqsortOrdered_int.r, []⟩ := by kernel_rfl
theorem k_slices_pdqsortOrdered_int : c_slices_pdqsortOrdered_int.ok = true := by kernel_rfl

def c_slices_insertionSortOrdered_int : LC :=
 (.seq (.ops [
   ⟨(some 8), none, .move (.t 1)⟩,
   ⟨(some 9), none, .bin .add true 3 (.t 8) (.c (.i 1))⟩,
   ⟨(some 6), none, .move (.t 9)⟩])
 (.block 0 (.loop (.seq (.seq (.ops [
       ⟨(some 10), none, .move (.t 6)⟩,
       ⟨(some 11), none, .move (.t 2)⟩,
       ⟨(some 12), none, .bin .lss false 3 (.t 10) (.t 11)⟩])
     (.cond (.t 12)
      .skip
      (.exit 0)))
    (.seq (.block 1 (.seq (.ops [
         ⟨(some 15), none, .move (.t 6)⟩,
         ⟨(some 7), none, .move (.t 15)⟩])
       (.block 2 (.loop (.seq (.seq (.draw [
             (⟨(some 16), none, .move (.t 7)⟩, []),
             (⟨(some 17), none, .move (.t 1)⟩, []),
             (⟨(some 18), none, .bin .gtr false 3 (.t 16) (.t 17)⟩, []),
             (⟨(some 19), none, .move (.t 18)⟩, []),
             (⟨(some 20), (some (19, true)), .move (.t 0)⟩, []),
             (⟨(some 21), (some (19, true)), .move (.t 7)⟩, []),
             (⟨(some 22), (some (19, true)), .ixAddr 1 (.t 20) (.t 21)⟩, []),
             (⟨(some 23), (some (19, true)), .load1 (.t 22)⟩, []),
             (⟨(some 24), (some (19, true)), .move (.t 0)⟩, []),
             (⟨(some 25), (some (19, true)), .move (.t 7)⟩, []),
             (⟨(some 26), (some (19, true)), .bin .sub true 3 (.t 25) (.c (.i 1))⟩, []),
             (⟨(some 27), (some (19, true)), .ixAddr 1 (.t 24) (.t 26)⟩, []),
             (⟨(some 28), (some (19, true)), .load1 (.t 27)⟩, []),
             (⟨(some 29), (some (19, true)), .callV (.c (.fn (.func 51) [] [])) [(.t 23), (.t 28)]⟩, []),
             (⟨(some 30), none, .pick (.t 19) (.t 29) (.c (.bool false))⟩, [])])
           (.cond (.t 30)
            .skip
            (.exit 2)))
          (.seq (.block 3 (.draw [
              (⟨(some 33), none, .move (.t 0)⟩, []),
              (⟨(some 34), none, .move (.t 7)⟩, []),
              (⟨(some 35), none, .move (.t 0)⟩, []),
              (⟨(some 36), none, .move (.t 7)⟩, []),
              (⟨(some 37), none, .bin .sub true 3 (.t 36) (.c (.i 1))⟩, []),
              (⟨(some 38), none, .move (.t 0)⟩, []),
              (⟨(some 39), none, .move (.t 7)⟩, []),
              (⟨(some 40), none, .bin .sub true 3 (.t 39) (.c (.i 1))⟩, []),
              (⟨(some 41), none, .ixAddr 1 (.t 38) (.t 40)⟩, []),
              (⟨(some 42), none, .load1 (.t 41)⟩, []),
              (⟨(some 43), none, .move (.t 0)⟩, []),
              (⟨(some 44), none, .move (.t 7)⟩, []),
              (⟨(some 45), none, .ixAddr 1 (.t 43) (.t 44)⟩, []),
              (⟨(some 46), none, .load1 (.t 45)⟩, []),
              (⟨(some 47), none, .ixAddr 1 (.t 33) (.t 34)⟩, []),
              (⟨none, none, .store 1 (.t 47) (.t 42)⟩, []),
              (⟨(some 48), none, .ixAddr 1 (.t 35) (.t 37)⟩, []),
              (⟨none, none, .store 1 (.t 48) (.t 46)⟩, [])]))
           (.ops [
             ⟨(some 31), none, .move (.t 7)⟩,
             ⟨(some 32), none, .bin .sub true 3 (.t 31) (.c (.i 1))⟩,
             ⟨(some 7), none, .move (.t 32)⟩])))))))
     (.ops [
       ⟨(some 13), none, .move (.t 6)⟩,
       ⟨(some 14), none, .bin .add true 3 (.t 13) (.c (.i 1))⟩,
       ⟨(some 6), none, .move (.t 14)⟩]))))))
theorem r_slices_insertionSortOrdered_int : resFn Try.prog 45 = some ⟨49, c_slices_insertionSortOrdered_int.r, []⟩ := by kernel_rfl
theorem k_slices_insertionSortOrdered_int : c_slices_insertionSortOrdered_int.ok = true := by kernel_rfl

def c_cmp_Less_int : LC :=
 (.seq (.ops [
   ⟨(some 4), none, .move (.c (.bool false))⟩])
 (.seq (.ops [
    ⟨(some 5), none, .move (.t 0)⟩,
    ⟨(some 6), none, .callV (.c (.fn (.func 61) [] [])) [(.t 5)]⟩,
    ⟨(some 7), none, .move (.t 6)⟩,
    ⟨(some 8), (some (7, true)), .move (.t 1)⟩,
    ⟨(some 9), (some (7, true)), .callV (.c (.fn (.func 61) [] [])) [(.t 8)]⟩,
    ⟨(some 10), (some (7, true)), .un .not (.t 9)⟩,
    ⟨(some 11), none, .pick (.t 7) (.t 10) (.c (.bool false))⟩,
    ⟨(some 12), none, .move (.t 11)⟩,
    ⟨(some 13), (some (12, false)), .move (.t 0)⟩,
    ⟨(some 14), (some (12, false)), .move (.t 1)⟩,
    ⟨(some 15), (some (12, false)), .bin .lss false 3 (.t 13) (.t 14)⟩,
    ⟨(some 16), none, .pick (.t 12) (.c (.bool true)) (.t 15)⟩,
    ⟨(some 4), none, .move (.t 16)⟩])
  .ret))
theorem r_cmp_Less_int : resFn Try.prog 51 = some ⟨17, c_cmp_Less_int.r, [.tmp 4]⟩ := by kernel_rfl
theorem k_cmp_Less_int : c_cmp_Less_int.ok = true := by kernel_rfl

def c_cmp_isNaN_int : LC :=
 (.seq (.ops [
   ⟨(some 2), none, .move (.c (.bool false))⟩])
 (.seq (.ops [
    ⟨(some 3), none, .move (.t 0)⟩,
    ⟨(some 4), none, .move (.t 0)⟩,
    ⟨(some 5), none, .bin .neq false 3 (.t 3) (.t 4)⟩,
    ⟨(some 2), none, .move (.t 5)⟩])
  .ret))
theorem r_cmp_isNaN_int : resFn Try.prog 61 = some ⟨6, c_cmp_isNaN_int.r, [.tmp 2]⟩ := by kernel_rfl
theorem k_cmp_isNaN_int : c_cmp_isNaN_int.ok = true := by kernel_rfl

def c_math_bits_Len : LC :=
 (.seq (.ops [
   ⟨(some 2), none, .move (.c (.i 0))⟩])
 (.seq (.cond (.c (.bool false))
   (.seq (.ops [
      ⟨(some 3), none, .move (.t 0)⟩,
      ⟨(some 4), none, .cvInt .u32 (.t 3)⟩,
      ⟨(some 5), none, .callV (.c (.fn (.func 54) [] [])) [(.t 4)]⟩,
      ⟨(some 2), none, .move (.t 5)⟩])
    .ret)
   .skip)
  (.seq (.ops [
     ⟨(some 6), none, .move (.t 0)⟩,
     ⟨(some 7), none, .callV (.c (.fn (.func 55) [] [])) [(.t 6)]⟩,
     ⟨(some 2), none, .move (.t 7)⟩])
   .ret)))
theorem r_math_bits_Len : resFn Try.prog 44 = some ⟨8, c_math_bits_Len.r, [.tmp 2]⟩ := by kernel_rfl
theorem k_math_bits_Len : c_math_bits_Len.ok = true := by kernel_rfl

def c_math_bits_Len64 : LC :=
 (.seq (.ops [
   ⟨(some 2), none, .move (.c (.i 0))⟩])
 (.seq (.seq (.ops [
     ⟨(some 3), none, .move (.t 0)⟩,
     ⟨(some 4), none, .bin .geq true 75 (.t 3) (.c (.u 4294967296))⟩])
   (.cond (.t 4)
    (.seq (.ops [
       ⟨(some 5), none, .move (.t 0)⟩,
       ⟨(some 6), none, .bin .shr true 75 (.t 5) (.c (.u 32))⟩,
       ⟨(some 0), none, .move (.t 6)⟩])
     (.ops [
       ⟨(some 2), none, .move (.c (.i 32))⟩]))
    .skip))
  (.seq (.seq (.ops [
      ⟨(some 7), none, .move (.t 0)⟩,
      ⟨(some 8), none, .bin .geq true 75 (.t 7) (.c (.u 65536))⟩])
    (.cond (.t 8)
     (.seq (.ops [
        ⟨(some 9), none, .move (.t 0)⟩,
        ⟨(some 10), none, .bin .shr true 75 (.t 9) (.c (.u 16))⟩,
        ⟨(some 0), none, .move (.t 10)⟩])
      (.ops [
        ⟨(some 11), none, .move (.t 2)⟩,
        ⟨(some 12), none, .bin .add true 3 (.t 11) (.c (.i 16))⟩,
        ⟨(some 2), none, .move (.t 12)⟩]))
     .skip))
   (.seq (.seq (.ops [
       ⟨(some 13), none, .move (.t 0)⟩,
       ⟨(some 14), none, .bin .geq true 75 (.t 13) (.c (.u 256))⟩])
     (.cond (.t 14)
      (.seq (.ops [
         ⟨(some 15), none, .move (.t 0)⟩,
         ⟨(some 16), none, .bin .shr true 75 (.t 15) (.c (.u 8))⟩,
         ⟨(some 0), none, .move (.t 16)⟩])
       (.ops [
         ⟨(some 17), none, .move (.t 2)⟩,
         ⟨(some 18), none, .bin .add true 3 (.t 17) (.c (.i 8))⟩,
         ⟨(some 2), none, .move (.t 18)⟩]))
      .skip))
    (.seq (.ops [
       ⟨(some 19), none, .move (.t 2)⟩,
       ⟨(some 20), none, .move (.t 0)⟩,
       ⟨(some 21), none, .cvInt .u8 (.t 20)⟩,
       ⟨(some 22), none, .ixStr (.c (.str [0, 1, 2, 2, 3, 3, 3, 3, 4, 4, 4, 4, 4, 4, 4, 4, 5, 5, 5, 5, 5, 5, 5, 5, 5, 5, 5, 5, 5, 5, 5, 5, 6, 6, 6, 6, 6, 6, 6, 6, 6, 6, 6, 6, 6, 6, 6, 6, 6, 6, 6, 6, 6, 6, 6, 6, 6, 6, 6, 6, 6, 6, 6, 6, 7, 7, 7, 7, 7, 7, 7, 7, 7, 7, 7, 7, 7, 7, 7, 7, 7, 7, 7, 7, 7, 7, 7, 7, 7, 7, 7, 7, 7, 7, 7, 7, 7, 7, 7, 7, 7, 7, 7, 7, 7, 7, 7, 7, 7, 7, 7, 7, 7, 7, 7, 7, 7, 7, 7, 7, 7, 7, 7, 7, 7, 7, 7, 7, 8, 8, 8, 8, 8, 8, 8, 8, 8, 8, 8, 8, 8, 8, 8, 8, 8, 8, 8, 8, 8, 8, 8, 8, 8, 8, 8, 8, 8, 8, 8, 8, 8, 8, 8, 8, 8, 8, 8, 8, 8, 8, 8, 8, 8, 8, 8, 8, 8, 8, 8, 8, 8, 8, 8, 8, 8, 8, 8, 8, 8, 8, 8, 8, 8, 8, 8, 8, 8, 8, 8, 8, 8, 8, 8, 8, 8, 8, 8, 8, 8, 8, 8, 8, 8, 8, 8, 8, 8, 8, 8, 8, 8, 8, 8, 8, 8, 8, 8, 8, 8, 8, 8, 8, 8, 8, 8, 8, 8, 8, 8, 8, 8, 8, 8, 8, 8, 8, 8, 8, 8, 8, 8, 8, 8, 8, 8, 8])) (.t 21)⟩,
       ⟨(some 23), none, .cvInt .i64 (.t 22)⟩,
       ⟨(some 24), none, .bin .add false 3 (.t 19) (.t 23)⟩,
       ⟨(some 2), none, .move (.t 24)⟩])
     .ret)))))
theorem r_math_bits_Len64 : resFn Try.prog 55 = some ⟨25, c_math_bits_Len64.r, [.tmp 2]⟩ := by kernel_rfl
theorem k_math_bits_Len64 : c_math_bits_Len64.ok = true := by kernel_rfl



theorem isNaN_ok (a : Int) : FnS Try.prog 61 [.i a] (.bool false) [] := by
  refine FnS.val rfl (call_body r_cmp_isNaN_int k_cmp_isNaN_int (by simp) ?_)
  simp [c_cmp_isNaN_int]
theorem Less_ok (a b : Int) : FnS Try.prog 51 [.i a, .i b] (.bool (decide (a < b))) [] := by
  refine FnS.val rfl (call_body r_cmp_Less_int k_cmp_Less_int (by simp) ?_)
  simp [c_cmp_Less_int]
  refine CallL_F (isNaN_ok a) (by simp) ?_
  simp
theorem insert_ok (l : List Int) (hl : l.length ≤ 1000) (G : LHeap) (p k st : Nat) (hp : G[p]? = some (.dyn (l.map .i) l.length 1 k st)) (K : LV → LHeap → Prop)
    (hK : ∀ l' st', l'.length = l.length → (∀ x, x ∈ l' ↔ x ∈ l) → sTo l' l.length → K (.tup []) (G.set p (.dyn (l'.map .i) l.length 1 k st'))) :
    CallL Try.prog (.fn 45) [.dy p k, .i 0, .i l.length] G K := by
  refine call_body r_slices_insertionSortOrdered_int k_slices_insertionSortOrdered_int (by simp) ?_
  simp [c_slices_insertionSortOrdered_int]
  have hlt : p < G.length := (List.getElem?_eq_some_iff.1 hp).1
  have hself : G = G.set p (.dyn (l.map .i) l.length 1 k st) := by
    have := (List.getElem?_eq_some_iff.1 hp).2
    rw [← this, List.set_getElem_self]
  have hat : ∀ x, (G.set p x)[p]? = some x := fun x => by simp [hlt]
  refine loop_nx (fun ρ D G' N => ∃ (i : Nat) (l' : List Int) (st' : Nat), D = [] ∧ G' = G.set p (.dyn (l'.map .i) l.length 1 k st') ∧ N + i = l.length + 1 ∧ 1 ≤ i ∧ lk ρ 0 = .dy p k ∧ lk ρ 1 = .i 0 ∧ lk ρ 2 = .i l.length ∧ lk ρ 6 = .i i ∧ l'.length = l.length ∧ (∀ x, x ∈ l' ↔ x ∈ l) ∧ sTo l' i)
    (N := l.length) ⟨1, l, st, rfl, hself, by omega, by omega, by simp, by simp, by simp, by simp, rfl, fun _ => Iff.rfl, fun u v h1 h2 => by omega⟩ ?_
  rintro N ρ D G' ⟨i, l', st', rfl, rfl, hN, hi1, h0, h1, h2, h6, hlen, hmem, hs⟩ Nx hNx
  by_cases hi : l.length ≤ i
  · have g : ¬ i < l.length := by omega
    simp [h2, h6, g]
    exact hK l' st' hlen hmem fun u v huv hv => hs u v huv (by omega)
  · have g : i < l.length := by omega
    simp [h2, h6, g]
    refine loop_nx (fun ρ D G' N => ∃ (j : Nat) (l' : List Int) (st' : Nat), D = [] ∧ G' = G.set p (.dyn (l'.map .i) l.length 1 k st') ∧ N = j ∧ j ≤ i ∧ lk ρ 0 = .dy p k ∧ lk ρ 1 = .i 0 ∧ lk ρ 2 = .i l.length ∧ lk ρ 6 = .i i ∧ lk ρ 7 = .i j ∧ l'.length = l.length ∧ (∀ x, x ∈ l' ↔ x ∈ l) ∧ sBut l' i j)
      (N := i) ⟨i, l', st', rfl, rfl, rfl, Nat.le_refl _, by simp [h0], by simp [h1], by simp [h2], by simp [h6], by simp, hlen, hmem, sTo_start hs⟩ ?_
    rintro M ρ D G' ⟨j, l', st', rfl, rfl, rfl, hji, h0, h1, h2, h6, h7, hlen, hmem, hs⟩ Nx2 hNx2
    have fin : ∀ ρ', lk ρ' 0 = .dy p k → lk ρ' 1 = .i 0 → lk ρ' 2 = .i l.length → lk ρ' 6 = .i (i + 1) → (M = 0 ∨ gd l' (M - 1) ≤ gd l' M) → Nx ρ' [] (G.set p (.dyn (l'.map .i) l.length 1 k st')) := fun ρ' f0 f1 f2 f6 h =>
      hNx _ _ _ ⟨N - 1, by omega, i + 1, l', st', rfl, rfl, by omega, by omega, f0, f1, f2, by simp [f6], hlen, hmem, sBut_end hji hs h⟩
    by_cases hj : M = 0
    · have g0 : ¬ 0 < M := by omega
      simp [h1, h7, h6, g0]
      exact ⟨by omega, fin _ (by simp [h0]) (by simp [h1]) (by simp [h2]) (by simp) (.inl hj)⟩
    · have g0 : 0 < M := by omega
      have hc := map_at (f := LV.i) (at_getD (l := l') (u := M) (by omega))
      have hc1 := map_at (f := LV.i) (at_getD (l := l') (u := M - 1) (by omega))
      have e1 : ((M : Int) - 1).toNat = M - 1 := by omega
      have g1 : M < l.length := by omega
      have g2 : (1 : Int) ≤ M := by omega
      have g3 : (M : Int) - 1 < l.length := by omega
      simp [h0, h1, h7, g0, hat, g1]
      simp [nthL_at hc, h0, h7, hat, e1, g2]
      refine ⟨by omega, by omega, ?_⟩
      simp [nthL_at hc1]
      refine CallL_F (Less_ok (gd l' M) (gd l' (M - 1))) (by simp) ?_
      by_cases hb : gd l' M < gd l' (M - 1)
      · simp [hb, h0, h7]
        refine ⟨by omega, ?_⟩
        simp [hat, g2, g3, nthL_at hc1, nthL_at hc, g1, h0, h7, e1]
        refine ⟨by omega, ?_⟩
        rw [lay_set l' M _ (by omega), lay_set _ (M - 1) _ (by simp; omega)]
        have e2 : ((M - 1 : Nat) : Int) = M - 1 := by omega
        refine ⟨by simp; omega, by omega, hNx2 _ _ _ ⟨M - 1, by omega, M - 1, swp l' M, _, rfl, rfl, rfl, by omega, by simp [h0], by simp [h1], by simp [h2], by simp [h6], by simp [e2], by rw [swp_length, hlen], fun x => by rw [swp_mem g0 (by omega), hmem], swp_but g0 hji (by omega) hs hb⟩⟩
      · simp [hb, h6]
        exact ⟨by omega, fin _ (by simp [h0]) (by simp [h1]) (by simp [h2]) (by simp) (.inr (by omega))⟩
theorem Len64_ok (n : Nat) (h : n ≤ 4) : FnS Try.prog 55 [.u (UInt64.ofNat n)] (.i ([0, 1, 2, 2, 3].getD n 0)) [] := by
  refine FnS.val rfl (call_body r_math_bits_Len64 k_math_bits_Len64 (by simp) ?_)
  match n, h with
  | 0, _ =>
    simp [c_math_bits_Len64]
    simp [show (uB 0).toNat = 0 from by rw [uB_eq]; rfl]
  | 1, _ =>
    simp [c_math_bits_Len64]
    simp [show (uB 1).toNat = 1 from by rw [uB_eq]; rfl]
  | 2, _ =>
    simp [c_math_bits_Len64]
    simp [show (uB 2).toNat = 2 from by rw [uB_eq]; rfl]
  | 3, _ =>
    simp [c_math_bits_Len64]
    simp [show (uB 3).toNat = 3 from by rw [uB_eq]; rfl]
  | 4, _ =>
    simp [c_math_bits_Len64]
    simp [show (uB 4).toNat = 4 from by rw [uB_eq]; rfl]
theorem Len_ok (n : Nat) (h : n ≤ 4) : FnS Try.prog 44 [.u (UInt64.ofNat n)] (.i ([0, 1, 2, 2, 3].getD n 0)) [] := by
  refine FnS.val rfl (call_body r_math_bits_Len k_math_bits_Len (by simp) ?_)
  simp [c_math_bits_Len]
  refine CallL_F (Len64_ok n h) (by simp) ?_
  simp
theorem pdq_ok (l : List Int) (x : Int) (hl : l.length ≤ 4) (G : LHeap) (p k st : Nat) (hp : G[p]? = some (.dyn (l.map .i) l.length 1 k st)) (K : LV → LHeap → Prop)
    (hK : ∀ l' st', l'.length = l.length → (∀ x, x ∈ l' ↔ x ∈ l) → sTo l' l.length → K (.tup []) (G.set p (.dyn (l'.map .i) l.length 1 k st'))) :
    CallL Try.prog (.fn 43) [.dy p k, .i 0, .i l.length, .i x] G K := by
  refine call_body r_slices_pdqsortOrdered_int k_slices_pdqsortOrdered_int (by simp) ?_
  simp [c_slices_pdqsortOrdered_int]
  refine loop_nx (fun ρ D G' N => D = [] ∧ G' = G ∧ lk ρ 0 = .dy p k ∧ lk ρ 1 = .i 0 ∧ lk ρ 2 = .i l.length) (N := 0) (by simp) ?_
  rintro N ρ D G' ⟨rfl, rfl, h0, h1, h2⟩ Nx hNx
  have g : (l.length : Int) ≤ 12 := by omega
  simp [h0, h1, h2, g]
  refine ⟨by omega, insert_ok l (by omega) G' p k st hp _ fun l' st' e1 e2 e3 => ?_⟩
  simp
  exact hK l' st' e1 e2 e3
theorem iU_of {n : Nat} (h : n ≤ 4) : iU (n : Int) = UInt64.ofNat n := UInt64.toNat_inj.1 (by rw [iU_nat (by omega), UInt64.toNat_ofNat_of_lt' (by simp [UInt64.size]; omega)])
theorem Sort_ok (l : List Int) (hl : l.length ≤ 4) (G : LHeap) (p k st : Nat) (hp : G[p]? = some (.dyn (l.map .i) l.length 1 k st)) (K : LV → LHeap → Prop)
    (hK : ∀ l' st', l'.length = l.length → (∀ x, x ∈ l' ↔ x ∈ l) → sTo l' l.length → K (.tup []) (G.set p (.dyn (l'.map .i) l.length 1 k st'))) :
    CallL Try.prog (.fn 40) [.dy p k] G K := by
  refine call_body r_slices_Sort_int_int k_slices_Sort_int_int (by simp) ?_
  simp [c_slices_Sort_int_int, hp]
  rw [iU_of hl]
  refine CallL_F (Len_ok l.length hl) (by simp) ?_
  simp
  refine pdq_ok l _ hl G p k st hp _ fun l' st' e1 e2 e3 => ?_
  simp
  exact hK l' st' e1 e2 e3
theorem insert_nil : FnS Try.prog 45 [.nilSl, .i 0, .i 0] (.tup []) [] := by
  refine FnS.val rfl (call_body r_slices_insertionSortOrdered_int k_slices_insertionSortOrdered_int (by simp) ?_)
  simp [c_slices_insertionSortOrdered_int]
  refine loop_nx (fun ρ D G' N => D = [] ∧ lk ρ 2 = .i 0 ∧ lk ρ 6 = .i 1) (N := 0) (by simp) ?_
  rintro N ρ D G' ⟨rfl, h2, h6⟩ Nx hNx
  simp [h2, h6]
theorem pdq_nil (x : Int) : FnS Try.prog 43 [.nilSl, .i 0, .i 0, .i x] (.tup []) [] := by
  refine FnS.val rfl (call_body r_slices_pdqsortOrdered_int k_slices_pdqsortOrdered_int (by simp) ?_)
  simp [c_slices_pdqsortOrdered_int]
  refine loop_nx (fun ρ D G' N => D = [] ∧ lk ρ 0 = .nilSl ∧ lk ρ 1 = .i 0 ∧ lk ρ 2 = .i 0) (N := 0) (by simp) ?_
  rintro N ρ D G' ⟨rfl, h0, h1, h2⟩ Nx hNx
  simp [h0, h1, h2]
  refine CallL_F insert_nil (by simp) ?_
  simp
theorem Sort_nil : FnS Try.prog 40 [.nilSl] (.tup []) [] := by
  refine FnS.val rfl (call_body r_slices_Sort_int_int k_slices_Sort_int_int (by simp) ?_)
  simp [c_slices_Sort_int_int]
  rw [show (0 : Int) = ((0 : Nat) : Int) from rfl, iU_of (by omega)]
  refine CallL_F (Len_ok 0 (by omega)) (by simp) ?_
  simp
  refine CallL_F (pdq_nil 0) (bors_self _ (by simp [dats, LV.dat])) ?_
  simp
end Go.Proofs.Ytbcfbojigokplaa
