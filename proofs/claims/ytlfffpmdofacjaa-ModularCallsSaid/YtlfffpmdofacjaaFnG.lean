/- Words: what the functions come to. -/
import Derived.Test.YtlfffpmdofacjaaFnE
import Derived.Test.YtlfffpmdofacjaaSvG4
namespace Go.Proofs.Ytlfffpmdofacjaa
open Go.Sv
set_option linter.unusedSimpArgs false

def c_word_Sub : LC :=
 (.seq (.ops [
   ⟨(some 6), none, .move (.c (.u 0))⟩,
   ⟨(some 7), none, .move (.c (.bool false))⟩])
 (.seq (.ops [
    ⟨(some 8), none, .move (.t 0)⟩,
    ⟨(some 9), none, .move (.t 1)⟩,
    ⟨(some 10), none, .bin .sub false 29 (.t 8) (.t 9)⟩,
    ⟨(some 6), none, .move (.t 10)⟩])
  (.seq (.ops [
     ⟨(some 11), none, .move (.t 0)⟩,
     ⟨(some 12), none, .move (.t 1)⟩,
     ⟨(some 13), none, .bin .lss false 29 (.t 11) (.t 12)⟩,
     ⟨(some 7), none, .move (.t 13)⟩])
   (.seq (.seq (.ops [
       ⟨(some 14), none, .move (.t 2)⟩])
     (.cond (.t 14)
      (.seq (.ops [
         ⟨(some 15), none, .move (.t 7)⟩,
         ⟨(some 16), none, .move (.t 15)⟩,
         ⟨(some 17), (some (16, false)), .move (.t 6)⟩,
         ⟨(some 18), (some (16, false)), .bin .eql true 29 (.t 17) (.c (.u 0))⟩,
         ⟨(some 19), none, .pick (.t 16) (.c (.bool true)) (.t 18)⟩,
         ⟨(some 7), none, .move (.t 19)⟩])
       (.ops [
         ⟨(some 20), none, .move (.t 6)⟩,
         ⟨(some 21), none, .bin .sub true 29 (.t 20) (.c (.u 1))⟩,
         ⟨(some 6), none, .move (.t 21)⟩]))
      .skip))
    (.seq (.ops [
       ⟨(some 22), none, .move (.t 6)⟩,
       ⟨(some 23), none, .move (.t 7)⟩,
       ⟨(some 6), none, .move (.t 22)⟩,
       ⟨(some 7), none, .move (.t 23)⟩])
     .ret)))))
theorem r_word_Sub : resFn Try.prog 84 = some ⟨24, c_word_Sub.r, [.tmp 6, .tmp 7]⟩ := by kernel_rfl
theorem k_word_Sub : c_word_Sub.ok = true := by kernel_rfl

def c_ref01_Sub : LC :=
 (.seq (.ops [
   ⟨(some 6), none, .move (.c (.u 0))⟩,
   ⟨(some 7), none, .move (.c (.bool false))⟩])
 (.seq (.ops [
    ⟨(some 10), none, .move (.t 0)⟩,
    ⟨(some 11), none, .move (.t 1)⟩,
    ⟨(some 12), none, .bin .sub false 29 (.t 10) (.t 11)⟩,
    ⟨(some 8), none, .move (.t 12)⟩])
  (.seq (.ops [
     ⟨(some 13), none, .move (.t 0)⟩,
     ⟨(some 14), none, .move (.t 1)⟩,
     ⟨(some 15), none, .bin .lss false 29 (.t 13) (.t 14)⟩,
     ⟨(some 9), none, .move (.t 15)⟩])
   (.seq (.seq (.ops [
       ⟨(some 16), none, .move (.t 2)⟩])
     (.cond (.t 16)
      (.seq (.ops [
         ⟨(some 17), none, .move (.t 9)⟩,
         ⟨(some 18), none, .move (.t 17)⟩,
         ⟨(some 19), (some (18, false)), .move (.t 8)⟩,
         ⟨(some 20), (some (18, false)), .bin .eql true 29 (.t 19) (.c (.u 0))⟩,
         ⟨(some 21), none, .pick (.t 18) (.c (.bool true)) (.t 20)⟩,
         ⟨(some 9), none, .move (.t 21)⟩])
       (.ops [
         ⟨(some 22), none, .move (.t 8)⟩,
         ⟨(some 23), none, .bin .sub true 29 (.t 22) (.c (.u 1))⟩,
         ⟨(some 8), none, .move (.t 23)⟩]))
      .skip))
    (.seq (.ops [
       ⟨(some 24), none, .move (.t 8)⟩,
       ⟨(some 25), none, .move (.t 9)⟩,
       ⟨(some 6), none, .move (.t 24)⟩,
       ⟨(some 7), none, .move (.t 25)⟩])
     .ret)))))
theorem r_ref01_Sub : resFn Try.prog 82 = some ⟨26, c_ref01_Sub.r, [.tmp 6, .tmp 7]⟩ := by kernel_rfl
theorem k_ref01_Sub : c_ref01_Sub.ok = true := by kernel_rfl

def c_word_Mul : LC :=
 (.seq (.ops [
   ⟨(some 4), none, .move (.c (.u 0))⟩,
   ⟨(some 5), none, .move (.c (.u 0))⟩])
 (.seq (.ops [
    ⟨(some 13), none, .move (.t 0)⟩,
    ⟨(some 14), none, .bin .shr true 29 (.t 13) (.c (.u 32))⟩,
    ⟨(some 15), none, .move (.t 0)⟩,
    ⟨(some 16), none, .bin .and true 29 (.t 15) (.c (.u 4294967295))⟩,
    ⟨(some 6), none, .move (.t 14)⟩,
    ⟨(some 7), none, .move (.t 16)⟩])
  (.seq (.ops [
     ⟨(some 17), none, .move (.t 1)⟩,
     ⟨(some 18), none, .bin .shr true 29 (.t 17) (.c (.u 32))⟩,
     ⟨(some 19), none, .move (.t 1)⟩,
     ⟨(some 20), none, .bin .and true 29 (.t 19) (.c (.u 4294967295))⟩,
     ⟨(some 8), none, .move (.t 18)⟩,
     ⟨(some 9), none, .move (.t 20)⟩])
   (.seq (.ops [
      ⟨(some 21), none, .move (.t 7)⟩,
      ⟨(some 22), none, .move (.t 9)⟩,
      ⟨(some 23), none, .bin .mul false 29 (.t 21) (.t 22)⟩,
      ⟨(some 10), none, .move (.t 23)⟩])
    (.seq (.ops [
       ⟨(some 24), none, .move (.t 6)⟩,
       ⟨(some 25), none, .move (.t 9)⟩,
       ⟨(some 26), none, .bin .mul false 29 (.t 24) (.t 25)⟩,
       ⟨(some 27), none, .move (.t 10)⟩,
       ⟨(some 28), none, .bin .shr true 29 (.t 27) (.c (.u 32))⟩,
       ⟨(some 29), none, .bin .add false 29 (.t 26) (.t 28)⟩,
       ⟨(some 11), none, .move (.t 29)⟩])
     (.seq (.ops [
        ⟨(some 30), none, .move (.t 7)⟩,
        ⟨(some 31), none, .move (.t 8)⟩,
        ⟨(some 32), none, .bin .mul false 29 (.t 30) (.t 31)⟩,
        ⟨(some 33), none, .move (.t 11)⟩,
        ⟨(some 34), none, .bin .and true 29 (.t 33) (.c (.u 4294967295))⟩,
        ⟨(some 35), none, .bin .add false 29 (.t 32) (.t 34)⟩,
        ⟨(some 12), none, .move (.t 35)⟩])
      (.seq (.ops [
         ⟨(some 36), none, .move (.t 6)⟩,
         ⟨(some 37), none, .move (.t 8)⟩,
         ⟨(some 38), none, .bin .mul false 29 (.t 36) (.t 37)⟩,
         ⟨(some 39), none, .move (.t 11)⟩,
         ⟨(some 40), none, .bin .shr true 29 (.t 39) (.c (.u 32))⟩,
         ⟨(some 41), none, .bin .add false 29 (.t 38) (.t 40)⟩,
         ⟨(some 42), none, .move (.t 12)⟩,
         ⟨(some 43), none, .bin .shr true 29 (.t 42) (.c (.u 32))⟩,
         ⟨(some 44), none, .bin .add false 29 (.t 41) (.t 43)⟩,
         ⟨(some 45), none, .move (.t 0)⟩,
         ⟨(some 46), none, .move (.t 1)⟩,
         ⟨(some 47), none, .bin .mul false 29 (.t 45) (.t 46)⟩,
         ⟨(some 4), none, .move (.t 44)⟩,
         ⟨(some 5), none, .move (.t 47)⟩])
       .ret)))))))
theorem r_word_Mul : resFn Try.prog 79 = some ⟨48, c_word_Mul.r, [.tmp 4, .tmp 5]⟩ := by kernel_rfl
theorem k_word_Mul : c_word_Mul.ok = true := by kernel_rfl

def c_ref01_Mul : LC :=
 (.seq (.ops [
   ⟨(some 4), none, .move (.c (.u 0))⟩,
   ⟨(some 5), none, .move (.c (.u 0))⟩])
 (.seq (.ops [
    ⟨(some 12), none, .move (.t 0)⟩,
    ⟨(some 13), none, .bin .shr true 29 (.t 12) (.c (.u 32))⟩,
    ⟨(some 14), none, .move (.t 0)⟩,
    ⟨(some 15), none, .bin .and true 29 (.t 14) (.c (.u 4294967295))⟩,
    ⟨(some 6), none, .move (.t 13)⟩,
    ⟨(some 7), none, .move (.t 15)⟩])
  (.seq (.ops [
     ⟨(some 16), none, .move (.t 1)⟩,
     ⟨(some 17), none, .bin .shr true 29 (.t 16) (.c (.u 32))⟩,
     ⟨(some 18), none, .move (.t 1)⟩,
     ⟨(some 19), none, .bin .and true 29 (.t 18) (.c (.u 4294967295))⟩,
     ⟨(some 8), none, .move (.t 17)⟩,
     ⟨(some 9), none, .move (.t 19)⟩])
   (.seq (.ops [
      ⟨(some 20), none, .move (.t 6)⟩,
      ⟨(some 21), none, .move (.t 9)⟩,
      ⟨(some 22), none, .bin .mul false 29 (.t 20) (.t 21)⟩,
      ⟨(some 23), none, .move (.t 7)⟩,
      ⟨(some 24), none, .move (.t 9)⟩,
      ⟨(some 25), none, .bin .mul false 29 (.t 23) (.t 24)⟩,
      ⟨(some 26), none, .bin .shr true 29 (.t 25) (.c (.u 32))⟩,
      ⟨(some 27), none, .bin .add false 29 (.t 22) (.t 26)⟩,
      ⟨(some 10), none, .move (.t 27)⟩])
    (.seq (.ops [
       ⟨(some 28), none, .move (.t 7)⟩,
       ⟨(some 29), none, .move (.t 8)⟩,
       ⟨(some 30), none, .bin .mul false 29 (.t 28) (.t 29)⟩,
       ⟨(some 31), none, .move (.t 10)⟩,
       ⟨(some 32), none, .bin .and true 29 (.t 31) (.c (.u 4294967295))⟩,
       ⟨(some 33), none, .bin .add false 29 (.t 30) (.t 32)⟩,
       ⟨(some 11), none, .move (.t 33)⟩])
     (.seq (.ops [
        ⟨(some 34), none, .move (.t 6)⟩,
        ⟨(some 35), none, .move (.t 8)⟩,
        ⟨(some 36), none, .bin .mul false 29 (.t 34) (.t 35)⟩,
        ⟨(some 37), none, .move (.t 10)⟩,
        ⟨(some 38), none, .bin .shr true 29 (.t 37) (.c (.u 32))⟩,
        ⟨(some 39), none, .bin .add false 29 (.t 36) (.t 38)⟩,
        ⟨(some 40), none, .move (.t 11)⟩,
        ⟨(some 41), none, .bin .shr true 29 (.t 40) (.c (.u 32))⟩,
        ⟨(some 42), none, .bin .add false 29 (.t 39) (.t 41)⟩,
        ⟨(some 43), none, .move (.t 0)⟩,
        ⟨(some 44), none, .move (.t 1)⟩,
        ⟨(some 45), none, .bin .mul false 29 (.t 43) (.t 44)⟩,
        ⟨(some 4), none, .move (.t 42)⟩,
        ⟨(some 5), none, .move (.t 45)⟩])
      .ret))))))
theorem r_ref01_Mul : resFn Try.prog 60 = some ⟨46, c_ref01_Mul.r, [.tmp 4, .tmp 5]⟩ := by kernel_rfl
theorem k_ref01_Mul : c_ref01_Mul.ok = true := by kernel_rfl

def c_word_Bits : LC :=
 (.seq (.ops [
   ⟨(some 2), none, .move (.c (.i 0))⟩])
 (.seq (.ops [
    ⟨(some 3), none, .move (.c (.i 0))⟩])
  (.seq (.seq (.ops [
      ⟨(some 4), none, .move (.c (.i 32))⟩])
    (.block 0 (.loop (.seq (.seq (.ops [
          ⟨(some 5), none, .move (.t 4)⟩,
          ⟨(some 6), none, .bin .gtr true 3 (.t 5) (.c (.i 0))⟩])
        (.cond (.t 6)
         .skip
         (.exit 0)))
       (.seq (.block 1 (.seq (.ops [
            ⟨(some 9), none, .move (.t 0)⟩,
            ⟨(some 10), none, .move (.t 4)⟩,
            ⟨(some 11), none, .bin .shr false 29 (.t 9) (.t 10)⟩,
            ⟨(some 12), none, .bin .neq true 29 (.t 11) (.c (.u 0))⟩])
          (.cond (.t 12)
           (.draw [
             (⟨(some 13), none, .move (.t 3)⟩, []),
             (⟨(some 14), none, .move (.t 4)⟩, []),
             (⟨(some 15), none, .bin .add false 3 (.t 13) (.t 14)⟩, []),
             (⟨(some 16), none, .move (.t 0)⟩, []),
             (⟨(some 17), none, .move (.t 4)⟩, []),
             (⟨(some 18), none, .bin .shr false 29 (.t 16) (.t 17)⟩, []),
             (⟨(some 3), none, .move (.t 15)⟩, []),
             (⟨(some 0), none, .move (.t 18)⟩, [])])
           .skip)))
        (.ops [
          ⟨(some 7), none, .move (.t 4)⟩,
          ⟨(some 8), none, .bin .shr true 3 (.t 7) (.c (.u 1))⟩,
          ⟨(some 4), none, .move (.t 8)⟩]))))))
   (.seq (.ops [
      ⟨(some 19), none, .move (.t 3)⟩,
      ⟨(some 20), none, .move (.t 0)⟩,
      ⟨(some 21), none, .cvInt .i64 (.t 20)⟩,
      ⟨(some 22), none, .bin .add false 3 (.t 19) (.t 21)⟩,
      ⟨(some 2), none, .move (.t 22)⟩])
    .ret))))
theorem r_word_Bits : resFn Try.prog 78 = some ⟨23, c_word_Bits.r, [.tmp 2]⟩ := by kernel_rfl
theorem k_word_Bits : c_word_Bits.ok = true := by kernel_rfl

def c_ref01_Bits : LC :=
 (.seq (.ops [
   ⟨(some 2), none, .move (.c (.i 0))⟩])
 (.seq (.ops [
    ⟨(some 3), none, .move (.c (.i 0))⟩])
  (.seq (.block 0 (.loop (.seq (.seq (.ops [
         ⟨(some 4), none, .move (.t 0)⟩,
         ⟨(some 5), none, .bin .gtr true 29 (.t 4) (.c (.u 0))⟩])
       (.cond (.t 5)
        .skip
        (.exit 0)))
      (.seq (.block 1 (.ops [
          ⟨(some 8), none, .move (.t 3)⟩,
          ⟨(some 9), none, .bin .add true 3 (.t 8) (.c (.i 1))⟩,
          ⟨(some 3), none, .move (.t 9)⟩]))
       (.ops [
         ⟨(some 6), none, .move (.t 0)⟩,
         ⟨(some 7), none, .bin .shr true 29 (.t 6) (.c (.u 1))⟩,
         ⟨(some 0), none, .move (.t 7)⟩])))))
   (.seq (.ops [
      ⟨(some 10), none, .move (.t 3)⟩,
      ⟨(some 2), none, .move (.t 10)⟩])
    .ret))))
theorem r_ref01_Bits : resFn Try.prog 81 = some ⟨11, c_ref01_Bits.r, [.tmp 2]⟩ := by kernel_rfl
theorem k_ref01_Bits : c_ref01_Bits.ok = true := by kernel_rfl

def c_word_Inverse : LC :=
 (.seq (.ops [
   ⟨(some 2), none, .move (.c (.u 0))⟩,
   ⟨(some 3), none, .move (.c (.bool false))⟩])
 (.seq (.seq (.ops [
     ⟨(some 5), none, .move (.t 0)⟩,
     ⟨(some 6), none, .bin .and true 29 (.t 5) (.c (.u 1))⟩,
     ⟨(some 7), none, .bin .eql true 29 (.t 6) (.c (.u 0))⟩])
   (.cond (.t 7)
    (.seq (.ops [
       ⟨(some 2), none, .move (.c (.u 0))⟩,
       ⟨(some 3), none, .move (.c (.bool false))⟩])
     .ret)
    .skip))
  (.seq (.ops [
     ⟨(some 8), none, .move (.t 0)⟩,
     ⟨(some 4), none, .move (.t 8)⟩])
   (.seq (.seq (.ops [
       ⟨(some 9), none, .move (.c (.i 0))⟩])
     (.block 0 (.loop (.seq (.ops [
          ⟨(some 10), none, .bin .lss true 3 (.t 9) (.c (.i 5))⟩])
        (.seq (.cond (.t 10)
          .skip
          (.exit 0))
         (.seq (.block 1 (.ops [
             ⟨(some 11), none, .move (.t 4)⟩,
             ⟨(some 12), none, .move (.t 0)⟩,
             ⟨(some 13), none, .move (.t 4)⟩,
             ⟨(some 14), none, .bin .mul false 29 (.t 12) (.t 13)⟩,
             ⟨(some 15), none, .bin .sub true 29 (.c (.u 2)) (.t 14)⟩,
             ⟨(some 16), none, .bin .mul false 29 (.t 11) (.t 15)⟩,
             ⟨(some 4), none, .move (.t 16)⟩]))
          (.ops [
            ⟨(some 17), none, .bin .add true 3 (.t 9) (.c (.i 1))⟩,
            ⟨(some 9), none, .move (.t 17)⟩])))))))
    (.seq (.ops [
       ⟨(some 18), none, .move (.t 4)⟩,
       ⟨(some 2), none, .move (.t 18)⟩,
       ⟨(some 3), none, .move (.c (.bool true))⟩])
     .ret)))))
theorem r_word_Inverse : resFn Try.prog 70 = some ⟨19, c_word_Inverse.r, [.tmp 2, .tmp 3]⟩ := by kernel_rfl
theorem k_word_Inverse : c_word_Inverse.ok = true := by kernel_rfl

def c_ref01_Inverse : LC :=
 (.seq (.ops [
   ⟨(some 2), none, .move (.c (.u 0))⟩,
   ⟨(some 3), none, .move (.c (.bool false))⟩])
 (.seq (.seq (.ops [
     ⟨(some 6), none, .move (.t 0)⟩,
     ⟨(some 7), none, .bin .rem true 29 (.t 6) (.c (.u 2))⟩,
     ⟨(some 8), none, .bin .eql true 29 (.t 7) (.c (.u 0))⟩])
   (.cond (.t 8)
    (.seq (.ops [
       ⟨(some 2), none, .move (.c (.u 0))⟩,
       ⟨(some 3), none, .move (.c (.bool false))⟩])
     .ret)
    .skip))
  (.seq (.ops [
     ⟨(some 4), none, .move (.c (.u 0))⟩])
   (.seq (.seq (.ops [
       ⟨(some 5), none, .move (.c (.i 0))⟩])
     (.block 0 (.loop (.seq (.seq (.ops [
           ⟨(some 9), none, .move (.t 5)⟩,
           ⟨(some 10), none, .bin .lss true 3 (.t 9) (.c (.i 64))⟩])
         (.cond (.t 10)
          .skip
          (.exit 0)))
        (.seq (.block 1 (.seq (.ops [
             ⟨(some 13), none, .move (.t 0)⟩,
             ⟨(some 14), none, .move (.t 4)⟩,
             ⟨(some 15), none, .bin .mul false 29 (.t 13) (.t 14)⟩,
             ⟨(some 16), none, .bin .xor true 29 (.t 15) (.c (.u 1))⟩,
             ⟨(some 17), none, .move (.t 5)⟩,
             ⟨(some 18), none, .cvInt .u64 (.t 17)⟩,
             ⟨(some 19), none, .bin .shr false 29 (.t 16) (.t 18)⟩,
             ⟨(some 20), none, .bin .and true 29 (.t 19) (.c (.u 1))⟩,
             ⟨(some 21), none, .bin .eql true 29 (.t 20) (.c (.u 1))⟩])
           (.cond (.t 21)
            (.ops [
              ⟨(some 22), none, .move (.t 4)⟩,
              ⟨(some 23), none, .move (.t 5)⟩,
              ⟨(some 24), none, .cvInt .u64 (.t 23)⟩,
              ⟨(some 25), none, .bin .shl true 29 (.c (.u 1)) (.t 24)⟩,
              ⟨(some 26), none, .bin .or false 29 (.t 22) (.t 25)⟩,
              ⟨(some 4), none, .move (.t 26)⟩])
            .skip)))
         (.ops [
           ⟨(some 11), none, .move (.t 5)⟩,
           ⟨(some 12), none, .bin .add true 3 (.t 11) (.c (.i 1))⟩,
           ⟨(some 5), none, .move (.t 12)⟩]))))))
    (.seq (.ops [
       ⟨(some 27), none, .move (.t 4)⟩,
       ⟨(some 2), none, .move (.t 27)⟩,
       ⟨(some 3), none, .move (.c (.bool true))⟩])
     .ret)))))
theorem r_ref01_Inverse : resFn Try.prog 75 = some ⟨28, c_ref01_Inverse.r, [.tmp 2, .tmp 3]⟩ := by kernel_rfl
theorem k_ref01_Inverse : c_ref01_Inverse.ok = true := by kernel_rfl



theorem subC_true (a b : UInt64) : (b ≤ a → decide (a - b = 0) = (subC a b true).2) ∧ (a < b → true = (subC a b true).2) := by
  unfold subC
  refine ⟨fun h => ?_, fun h => ?_⟩
  · have h' : ¬ a < b := UInt64.not_lt.2 h
    simp [h']
  · simp [h]
theorem ref01_Sub_ok (a b : UInt64) (c : Bool) : FnS Try.prog 82 [.u a, .u b, .bool c] (.tup [.u (subC a b c).1, .bool (subC a b c).2]) [] := by
  refine FnS.val rfl (call_body r_ref01_Sub k_ref01_Sub (by simp) ?_)
  cases c
  · simp [c_ref01_Sub]
    simp [subC, subU_eq]
  · simp [c_ref01_Sub]
    simp only [subU_eq]
    exact ⟨fun h => ⟨rfl, ((subC_true a b).2 h).symm⟩, fun h => ⟨rfl, (subC_true a b).1 h⟩⟩
theorem word_Sub_ok (a b : UInt64) (c : Bool) : FnS Try.prog 84 [.u a, .u b, .bool c] (.tup [.u (subC a b c).1, .bool (subC a b c).2]) [] := by
  refine FnS.val rfl (call_body r_word_Sub k_word_Sub (by simp) ?_)
  cases c
  · simp [c_word_Sub]
    simp [subC, subU_eq]
  · simp [c_word_Sub]
    simp only [subU_eq]
    exact ⟨fun h => ⟨rfl, ((subC_true a b).2 h).symm⟩, fun h => ⟨rfl, (subC_true a b).1 h⟩⟩
theorem ref01_Mul_ok (a b : UInt64) : FnS Try.prog 60 [.u a, .u b] (.tup [.u (mulHi a b), .u (a * b)]) [] := by
  refine FnS.val rfl (call_body r_ref01_Mul k_ref01_Mul (by simp) ?_)
  simp [c_ref01_Mul]
  exact ⟨mul_hi a b, mulU_eq a b⟩
theorem word_Mul_ok (a b : UInt64) : FnS Try.prog 79 [.u a, .u b] (.tup [.u (mulHi a b), .u (a * b)]) [] := by
  refine FnS.val rfl (call_body r_word_Mul k_word_Mul (by simp) ?_)
  simp [c_word_Mul]
  exact ⟨mul_hi a b, mulU_eq a b⟩
theorem ref01_Bits_ok (a : UInt64) : FnS Try.prog 81 [.u a] (.i (blen a.toNat)) [] := by
  refine FnS.val rfl (call_body r_ref01_Bits k_ref01_Bits (by simp) ?_)
  simp [c_ref01_Bits]
  refine loop_nx (fun ρ D G N => ∃ (x : UInt64) (i : Nat), D = [] ∧ N = blen x.toNat ∧ lk ρ 0 = .u x ∧ lk ρ 3 = .i i ∧ i + blen x.toNat = blen a.toNat) (N := blen a.toNat) ⟨a, 0, by simp⟩ ?_
  rintro N ρ D G ⟨x, i, rfl, rfl, h0, h3, hb⟩ Nx hNx
  have hle : blen a.toNat ≤ 64 := blen_le a.toNat_lt
  by_cases hz : x = 0
  · subst hz
    simp [blen_zero] at hb
    simp [h0, h3, hb]
  · have hx : x.toNat ≠ 0 := fun e => hz ((u_zero_iff x).2 e)
    have hp : (0 : UInt64) < x := by rw [UInt64.lt_iff_toNat_lt]; simp; omega
    have hh := blen_half hx
    have hs : (shrU x 1).toNat = x.toNat / 2 := by rw [shr_val]
    simp [h0, h3, hp]
    refine ⟨by omega, hNx _ _ _ ⟨blen (x.toNat / 2), by omega, shrU x 1, i + 1, rfl, by rw [hs], by simp, by simp, by rw [hs]; omega⟩⟩
theorem word_Bits_ok (a : UInt64) : FnS Try.prog 78 [.u a] (.i (blen a.toNat)) [] := by
  refine FnS.val rfl (call_body r_word_Bits k_word_Bits (by simp) ?_)
  simp [c_word_Bits]
  refine loop_nx (fun ρ D G N => ∃ (x : UInt64) (i : Nat), D = [] ∧ N ≤ 6 ∧ lk ρ 0 = .u x ∧ lk ρ 3 = .i i ∧ lk ρ 4 = .i (2 ^ N / 2 : Nat) ∧ x.toNat < 2 ^ 2 ^ N ∧ i + blen x.toNat = blen a.toNat) (N := 6) ⟨a, 0, by simp; exact a.toNat_lt⟩ ?_
  rintro N ρ D G ⟨x, i, rfl, hN, h0, h3, h4, hx, hb⟩ Nx hNx
  have hle : blen a.toNat ≤ 64 := blen_le a.toNat_lt
  cases N with
  | zero =>
    simp at hx h4
    have hbx := blen_one hx
    simp [h0, h3, h4]
    omega
  | succ N =>
    have e1 : 2 ^ (N + 1) / 2 = 2 ^ N := by rw [Nat.pow_succ]; omega
    have hpos : 0 < 2 ^ N := Nat.two_pow_pos N
    have hsm : 2 ^ N ≤ 2 ^ 5 := Nat.pow_le_pow_right (by omega) (by omega)
    rw [e1] at h4
    obtain ⟨w, hw⟩ : ∃ w, 2 ^ N = w := ⟨_, rfl⟩
    have hs := shr_val x w
    have hx2 : x.toNat < 2 ^ w * 2 ^ w := by
      rw [← Nat.pow_add, ← hw]; rw [Nat.pow_succ] at hx
      rwa [show 2 ^ N + 2 ^ N = 2 ^ N * 2 by omega]
    rw [hw] at h4 hpos hsm
    have hdiv : w / 2 = 2 ^ N / 2 := by rw [hw]
    by_cases hz : shrU x w = 0
    · have hz2 : x.toNat / 2 ^ w = 0 := by rw [← hs, hz]; rfl
      have hlt : x.toNat < 2 ^ w := by
        have := Nat.two_pow_pos w
        rcases Nat.div_eq_zero_iff.1 hz2 with h | h
        · omega
        · exact h
      simp [h0, h3, h4, hpos, hz]
      exact hNx _ _ _ ⟨N, by omega, x, i, rfl, by omega, by simp [h0], by simp [h3], by simp [← hdiv], by rw [hw]; exact hlt, hb⟩
    · have hz2 : x.toNat / 2 ^ w ≠ 0 := by rw [← hs]; exact fun e => hz ((u_zero_iff _).2 e)
      have hsh := blen_shift w hz2
      simp [h0, h3, h4, hpos, hz]
      refine ⟨by omega, hNx _ _ _ ⟨N, by omega, shrU x w, i + w, rfl, by omega, by simp, by simp, by simp [← hdiv], ?_, by rw [hs]; omega⟩⟩
      rw [hw, hs]
      exact Nat.div_lt_of_lt_mul hx2
theorem word_Inverse_ok (n : UInt64) (hn : n % 2 = 1) : FnS Try.prog 70 [.u n] (.tup [.u (inv64 n), .bool true]) [] := by
  refine FnS.val rfl (call_body r_word_Inverse k_word_Inverse (by simp) ?_)
  have h1 : ¬ andU n 1 = 0 := by
    intro e
    have h := and_one n
    rw [e] at h
    have hm := congrArg UInt64.toNat hn
    simp at h hm
    omega
  simp [c_word_Inverse, h1]
  refine loop_nx (fun ρ D G N => ∃ i : Nat, D = [] ∧ N + i = 5 ∧ lk ρ 0 = .u n ∧ lk ρ 4 = .u (nwI n i) ∧ lk ρ 9 = .i i) (N := 5) ⟨0, by simp [nwI]⟩ ?_
  rintro N ρ D G ⟨i, rfl, hN, h0, h4, h9⟩ Nx hNx
  by_cases hz : N = 0
  · have hi : i = 5 := by omega
    subst hi
    simp [h4, h9]
    exact (inv64_eq (nwI_5 hn)).symm
  · have hi : (i : Int) < 5 := by omega
    simp [h0, h4, h9, hi]
    refine ⟨by omega, hNx _ _ _ ⟨N - 1, by omega, i + 1, rfl, by omega, by simp [h0], by simp [nwI_succ], by simp⟩⟩
theorem ref01_Inverse_ok (n : UInt64) (hn : n % 2 = 1) : FnS Try.prog 75 [.u n] (.tup [.u (inv64 n), .bool true]) [] := by
  refine FnS.val rfl (call_body r_ref01_Inverse k_ref01_Inverse (by simp) ?_)
  have h1 : ¬ modU n 2 = 0 := by rw [modU_eq, hn]; decide
  have hn2 : n.toNat % 2 = 1 := by simpa using congrArg UInt64.toNat hn
  simp [c_ref01_Inverse, h1]
  refine loop_nx (fun ρ D G N => ∃ (x : UInt64) (i : Nat), D = [] ∧ N + i = 64 ∧ lk ρ 0 = .u n ∧ lk ρ 4 = .u x ∧ lk ρ 5 = .i i ∧ InvAt n i x) (N := 64) ⟨0, 0, by simp [inv_start]⟩ ?_
  rintro N ρ D G ⟨x, i, rfl, hN, h0, h4, h5, hI⟩ Nx hNx
  by_cases hz : N = 0
  · have hi : i = 64 := by omega
    subst hi
    simp [h4, h5]
    exact (inv64_eq (inv_end hI)).symm
  · have hi : (i : Int) < 64 := by omega
    have hiU : (iU (i : Int)).toNat = i := iU_nat (by omega)
    obtain ⟨s1, s2⟩ := inv_step hn2 (show i < 64 by omega) hI
    by_cases hb : andU (shrU (xorU (mulU n x) 1) i) 1 = 1
    · simp [h0, h4, h5, hi, hiU, hb]
      refine ⟨by omega, hNx _ _ _ ⟨N - 1, by omega, _, i + 1, rfl, by omega, by simp [h0], by simp, by simp, s1 hb⟩⟩
    · simp [h0, h4, h5, hi, hiU, hb]
      refine ⟨by omega, hNx _ _ _ ⟨N - 1, by omega, x, i + 1, rfl, by omega, by simp [h0], by simp [h4], by simp, s2 hb⟩⟩
end Go.Proofs.Ytlfffpmdofacjaa
