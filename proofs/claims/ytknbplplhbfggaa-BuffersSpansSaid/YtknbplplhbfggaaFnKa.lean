/- Kernels: shapes, numbers, needs; rows looked through by a function. -/
import Derived.Test.YtknbplplhbfggaaSvG4

import Derived.Test.YtknbplplhbfggaaProg
import Derived.KernelRfl
namespace Go.Proofs.Ytknbplplhbfggaa
open Go.Sv
set_option linter.unusedSimpArgs false
set_option maxRecDepth 10000

def c_lengths_shape : LC :=
 (.seq (.ops [
   ⟨(some 2), none, .move (.c (.i 0))⟩,
   ⟨(some 3), none, .move (.c (.bool false))⟩])
 (.seq (.seq (.ops [
     ⟨(some 4), none, .move (.t 0)⟩])
   (.block 0 (.seq (.ops [
       ⟨(some 6), none, .bin .eql true 3 (.t 4) (.c (.i 1))⟩,
       ⟨(some 5), none, .move (.t 6)⟩])
     (.cond (.t 5)
      (.seq (.ops [
         ⟨(some 2), none, .move (.c (.i 1))⟩,
         ⟨(some 3), none, .move (.c (.bool true))⟩])
       .ret)
      (.seq (.ops [
         ⟨(some 8), none, .bin .eql true 3 (.t 4) (.c (.i 2))⟩,
         ⟨(some 7), none, .move (.t 8)⟩])
       (.cond (.t 7)
        (.seq (.ops [
           ⟨(some 2), none, .move (.c (.i 5))⟩,
           ⟨(some 3), none, .move (.c (.bool true))⟩])
         .ret)
        (.seq (.seq (.ops [
            ⟨(some 10), none, .bin .eql true 3 (.t 4) (.c (.i 3))⟩,
            ⟨(some 9), none, .move (.t 10)⟩])
          (.cond (.t 9)
           .skip
           (.seq (.ops [
              ⟨(some 11), none, .bin .eql true 3 (.t 4) (.c (.i 4))⟩,
              ⟨(some 9), none, .move (.t 11)⟩])
            (.cond (.t 9)
             .skip
             (.seq (.ops [
                ⟨(some 12), none, .bin .eql true 3 (.t 4) (.c (.i 5))⟩,
                ⟨(some 9), none, .move (.t 12)⟩])
              (.cond (.t 9)
               .skip
               (.seq (.ops [
                  ⟨(some 13), none, .bin .eql true 3 (.t 4) (.c (.i 6))⟩,
                  ⟨(some 9), none, .move (.t 13)⟩])
                (.cond (.t 9)
                 .skip
                 (.ops [
                   ⟨(some 14), none, .bin .eql true 3 (.t 4) (.c (.i 7))⟩,
                   ⟨(some 9), none, .move (.t 14)⟩])))))))))
         (.cond (.t 9)
          (.seq (.ops [
             ⟨(some 2), none, .move (.c (.i 13))⟩,
             ⟨(some 3), none, .move (.c (.bool true))⟩])
           .ret)
          (.seq (.seq (.ops [
              ⟨(some 16), none, .bin .eql true 3 (.t 4) (.c (.i 8))⟩,
              ⟨(some 15), none, .move (.t 16)⟩])
            (.cond (.t 15)
             .skip
             (.seq (.ops [
                ⟨(some 17), none, .bin .eql true 3 (.t 4) (.c (.i 10))⟩,
                ⟨(some 15), none, .move (.t 17)⟩])
              (.cond (.t 15)
               .skip
               (.seq (.ops [
                  ⟨(some 18), none, .bin .eql true 3 (.t 4) (.c (.i 11))⟩,
                  ⟨(some 15), none, .move (.t 18)⟩])
                (.cond (.t 15)
                 .skip
                 (.seq (.ops [
                    ⟨(some 19), none, .bin .eql true 3 (.t 4) (.c (.i 12))⟩,
                    ⟨(some 15), none, .move (.t 19)⟩])
                  (.cond (.t 15)
                   .skip
                   (.ops [
                     ⟨(some 20), none, .bin .eql true 3 (.t 4) (.c (.i 13))⟩,
                     ⟨(some 15), none, .move (.t 20)⟩])))))))))
           (.cond (.t 15)
            (.seq (.ops [
               ⟨(some 2), none, .move (.c (.i 29))⟩,
               ⟨(some 3), none, .move (.c (.bool true))⟩])
             .ret)
            (.seq (.ops [
               ⟨(some 22), none, .bin .eql true 3 (.t 4) (.c (.i 9))⟩,
               ⟨(some 21), none, .move (.t 22)⟩])
             (.cond (.t 21)
              (.seq (.ops [
                 ⟨(some 2), none, .move (.c (.i 21))⟩,
                 ⟨(some 3), none, .move (.c (.bool true))⟩])
               .ret)
              (.seq (.ops [
                 ⟨(some 24), none, .bin .eql true 3 (.t 4) (.c (.i 14))⟩,
                 ⟨(some 23), none, .move (.t 24)⟩])
               (.cond (.t 23)
                (.seq (.ops [
                   ⟨(some 2), none, .move (.c (.i 19))⟩,
                   ⟨(some 3), none, .move (.c (.bool true))⟩])
                 .ret)
                (.seq (.seq (.ops [
                    ⟨(some 26), none, .bin .eql true 3 (.t 4) (.c (.i 15))⟩,
                    ⟨(some 25), none, .move (.t 26)⟩])
                  (.cond (.t 25)
                   .skip
                   (.ops [
                     ⟨(some 27), none, .bin .eql true 3 (.t 4) (.c (.i 16))⟩,
                     ⟨(some 25), none, .move (.t 27)⟩])))
                 (.cond (.t 25)
                  (.seq (.ops [
                     ⟨(some 2), none, .move (.c (.i 0))⟩,
                     ⟨(some 3), none, .move (.c (.bool true))⟩])
                   .ret)
                  .skip))))))))))))))))
  (.seq (.ops [
     ⟨(some 2), none, .move (.c (.i 0))⟩,
     ⟨(some 3), none, .move (.c (.bool false))⟩])
   .ret)))
theorem r_lengths_shape : resFn Try.prog 48 = some ⟨28, c_lengths_shape.r, [.tmp 2, .tmp 3]⟩ := by kernel_rfl
theorem k_lengths_shape : c_lengths_shape.ok = true := by kernel_rfl

def c_lengths_number : LC :=
 (.seq (.ops [
   ⟨(some 1), none, .box (.t 0)⟩,
   ⟨(some 2), none, .move (.c (.bool false))⟩])
 (.seq (.seq (.ops [
     ⟨(some 3), none, .fieldAddr 0 (.t 1)⟩,
     ⟨(some 4), none, .load1 (.t 3)⟩])
   (.block 0 (.seq (.ops [
       ⟨(some 6), none, .bin .eql true 3 (.t 4) (.c (.i 1))⟩,
       ⟨(some 5), none, .move (.t 6)⟩])
     (.cond (.t 5)
      (.seq (.ops [
         ⟨(some 2), none, .move (.c (.bool true))⟩])
       .ret)
      (.seq (.ops [
         ⟨(some 8), none, .bin .eql true 3 (.t 4) (.c (.i 13))⟩,
         ⟨(some 7), none, .move (.t 8)⟩])
       (.cond (.t 7)
        (.seq (.ops [
           ⟨(some 9), none, .fieldAddr 6 (.t 1)⟩,
           ⟨(some 10), none, .load1 (.t 9)⟩,
           ⟨(some 11), none, .bin .geq true 38 (.t 10) (.c (.u 1))⟩,
           ⟨(some 12), none, .move (.t 11)⟩,
           ⟨(some 13), (some (12, true)), .fieldAddr 6 (.t 1)⟩,
           ⟨(some 14), (some (12, true)), .load1 (.t 13)⟩,
           ⟨(some 15), (some (12, true)), .bin .leq true 38 (.t 14) (.c (.u 6))⟩,
           ⟨(some 16), none, .pick (.t 12) (.t 15) (.c (.bool false))⟩,
           ⟨(some 2), none, .move (.t 16)⟩])
         .ret)
        (.seq (.ops [
           ⟨(some 18), none, .bin .eql true 3 (.t 4) (.c (.i 15))⟩,
           ⟨(some 17), none, .move (.t 18)⟩])
         (.cond (.t 17)
          (.seq (.ops [
             ⟨(some 19), none, .fieldAddr 6 (.t 1)⟩,
             ⟨(some 20), none, .load1 (.t 19)⟩,
             ⟨(some 21), none, .bin .geq true 38 (.t 20) (.c (.u 1))⟩,
             ⟨(some 22), none, .move (.t 21)⟩,
             ⟨(some 23), (some (22, true)), .fieldAddr 6 (.t 1)⟩,
             ⟨(some 24), (some (22, true)), .load1 (.t 23)⟩,
             ⟨(some 25), (some (22, true)), .bin .leq true 38 (.t 24) (.c (.u 4096))⟩,
             ⟨(some 26), none, .pick (.t 22) (.t 25) (.c (.bool false))⟩,
             ⟨(some 2), none, .move (.t 26)⟩])
           .ret)
          .skip))))))))
  (.seq (.ops [
     ⟨(some 27), none, .fieldAddr 6 (.t 1)⟩,
     ⟨(some 28), none, .load1 (.t 27)⟩,
     ⟨(some 29), none, .bin .eql true 38 (.t 28) (.c (.u 0))⟩,
     ⟨(some 2), none, .move (.t 29)⟩])
   .ret)))
theorem r_lengths_number : resFn Try.prog 49 = some ⟨30, c_lengths_number.r, [.tmp 2]⟩ := by kernel_rfl
theorem k_lengths_number : c_lengths_number.ok = true := by kernel_rfl

def c_lengths_parts : LC :=
 (.seq (.ops [
   ⟨(some 1), none, .box (.t 0)⟩,
   ⟨(some 2), none, .alloc [(.i 0), (.i 0), (.i 0), (.i 0), (.i 0)]⟩])
 (.seq (.ops [
    ⟨(some 3), none, .fieldAddr 1 (.t 1)⟩,
    ⟨(some 4), none, .load1 (.t 3)⟩,
    ⟨(some 5), none, .fieldAddr 2 (.t 1)⟩,
    ⟨(some 6), none, .load1 (.t 5)⟩,
    ⟨(some 7), none, .fieldAddr 3 (.t 1)⟩,
    ⟨(some 8), none, .load1 (.t 7)⟩,
    ⟨(some 9), none, .fieldAddr 4 (.t 1)⟩,
    ⟨(some 10), none, .load1 (.t 9)⟩,
    ⟨(some 11), none, .fieldAddr 5 (.t 1)⟩,
    ⟨(some 12), none, .load1 (.t 11)⟩,
    ⟨(some 13), none, .build [(.i 0), (.i 0), (.i 0), (.i 0), (.i 0)] [(0, 1, (.t 4)), (1, 1, (.t 6)), (2, 1, (.t 8)), (3, 1, (.t 10)), (4, 1, (.t 12))]⟩,
    ⟨none, none, .store 5 (.t 2) (.t 13)⟩])
  .ret))
theorem r_lengths_parts : resFn Try.prog 50 = some ⟨14, c_lengths_parts.r, [.cellN 2 5]⟩ := by kernel_rfl
theorem k_lengths_parts : c_lengths_parts.ok = true := by kernel_rfl

def c_lengths_given : LC :=
 (.seq (.ops [
   ⟨(some 1), none, .box (.t 0)⟩,
   ⟨(some 2), none, .move (.c (.bool false))⟩])
 (.seq (.ops [
    ⟨(some 3), none, .fieldAddr 2 (.t 1)⟩,
    ⟨(some 4), none, .load1 (.t 3)⟩,
    ⟨(some 5), none, .bin .eql true 3 (.t 4) (.c (.i 1))⟩,
    ⟨(some 6), none, .move (.t 5)⟩,
    ⟨(some 7), (some (6, false)), .fieldAddr 2 (.t 1)⟩,
    ⟨(some 8), (some (6, false)), .load1 (.t 7)⟩,
    ⟨(some 9), (some (6, false)), .bin .eql true 3 (.t 8) (.c (.i 2))⟩,
    ⟨(some 10), none, .pick (.t 6) (.c (.bool true)) (.t 9)⟩,
    ⟨(some 2), none, .move (.t 10)⟩])
  .ret))
theorem r_lengths_given : resFn Try.prog 35 = some ⟨11, c_lengths_given.r, [.tmp 2]⟩ := by kernel_rfl
theorem k_lengths_given : c_lengths_given.ok = true := by kernel_rfl

def c_lengths_need_1 : LC :=
 (.seq (.ops [
   ⟨(some 3), none, .move (.c (.bool false))⟩])
 (.seq (.ops [
    ⟨(some 4), none, .move (.t 0)⟩,
    ⟨(some 5), none, .bin .geq true 3 (.t 4) (.c (.i 0))⟩,
    ⟨(some 6), none, .move (.t 5)⟩,
    ⟨(some 7), (some (6, true)), .move (.t 0)⟩,
    ⟨(some 8), (some (6, true)), .load1 (.t 1)⟩,
    ⟨(some 9), (some (6, true)), .lenSl (.t 8)⟩,
    ⟨(some 10), (some (6, true)), .bin .lss false 3 (.t 7) (.t 9)⟩,
    ⟨(some 11), none, .pick (.t 6) (.t 10) (.c (.bool false))⟩,
    ⟨(some 3), none, .move (.t 11)⟩])
  .ret))
theorem r_lengths_need_1 : resFn Try.prog 47 = some ⟨12, c_lengths_need_1.r, [.tmp 3]⟩ := by kernel_rfl
theorem k_lengths_need_1 : c_lengths_need_1.ok = true := by kernel_rfl

def c_lengths_need : LC :=
 (.seq (.ops [
   ⟨(some 2), none, .box (.t 0)⟩,
   ⟨(some 3), none, .box (.t 1)⟩,
   ⟨(some 4), none, .move (.c (.bool false))⟩])
 (.seq (.ops [
    ⟨(some 6), none, .mkFunc 47 [] [(.t 2)]⟩,
    ⟨(some 5), none, .move (.t 6)⟩])
  (.seq (.seq (.ops [
      ⟨(some 7), none, .fieldAddr 1 (.t 3)⟩,
      ⟨(some 8), none, .load1 (.t 7)⟩,
      ⟨(some 9), none, .bin .neq true 3 (.t 8) (.c (.i (-1)))⟩,
      ⟨(some 10), none, .move (.t 9)⟩,
      ⟨(some 11), (some (10, false)), .fieldAddr 2 (.t 3)⟩,
      ⟨(some 12), (some (10, false)), .load1 (.t 11)⟩,
      ⟨(some 13), (some (10, false)), .bin .neq true 3 (.t 12) (.c (.i (-1)))⟩,
      ⟨(some 14), none, .pick (.t 10) (.c (.bool true)) (.t 13)⟩,
      ⟨(some 15), none, .move (.t 14)⟩,
      ⟨(some 16), (some (15, false)), .fieldAddr 5 (.t 3)⟩,
      ⟨(some 17), (some (15, false)), .load1 (.t 16)⟩,
      ⟨(some 18), (some (15, false)), .bin .neq true 3 (.t 17) (.c (.i (-1)))⟩,
      ⟨(some 19), none, .pick (.t 15) (.c (.bool true)) (.t 18)⟩,
      ⟨(some 20), none, .move (.t 19)⟩,
      ⟨(some 21), (some (20, false)), .move (.t 5)⟩,
      ⟨(some 22), (some (20, false)), .fieldAddr 3 (.t 3)⟩,
      ⟨(some 23), (some (20, false)), .load1 (.t 22)⟩,
      ⟨(some 24), (some (20, false)), .callV (.t 21) [(.t 23)]⟩,
      ⟨(some 25), (some (20, false)), .un .not (.t 24)⟩,
      ⟨(some 26), none, .pick (.t 20) (.c (.bool true)) (.t 25)⟩])
    (.cond (.t 26)
     (.seq (.ops [
        ⟨(some 4), none, .move (.c (.bool false))⟩])
      .ret)
     .skip))
   (.seq (.seq (.ops [
       ⟨(some 27), none, .fieldAddr 6 (.t 3)⟩,
       ⟨(some 28), none, .load1 (.t 27)⟩])
     (.block 0 (.seq (.ops [
         ⟨(some 30), none, .bin .eql true 38 (.t 28) (.c (.u 2))⟩,
         ⟨(some 29), none, .move (.t 30)⟩])
       (.cond (.t 29)
        (.seq (.ops [
           ⟨(some 31), none, .move (.t 5)⟩,
           ⟨(some 32), none, .fieldAddr 4 (.t 3)⟩,
           ⟨(some 33), none, .load1 (.t 32)⟩,
           ⟨(some 34), none, .callV (.t 31) [(.t 33)]⟩,
           ⟨(some 4), none, .move (.t 34)⟩])
         .ret)
        (.seq (.seq (.ops [
            ⟨(some 36), none, .bin .eql true 38 (.t 28) (.c (.u 1))⟩,
            ⟨(some 35), none, .move (.t 36)⟩])
          (.cond (.t 35)
           .skip
           (.ops [
             ⟨(some 37), none, .bin .eql true 38 (.t 28) (.c (.u 3))⟩,
             ⟨(some 35), none, .move (.t 37)⟩])))
         (.cond (.t 35)
          (.seq (.ops [
             ⟨(some 38), none, .fieldAddr 4 (.t 3)⟩,
             ⟨(some 39), none, .load1 (.t 38)⟩,
             ⟨(some 40), none, .bin .eql true 3 (.t 39) (.c (.i (-1)))⟩,
             ⟨(some 4), none, .move (.t 40)⟩])
           .ret)
          .skip))))))
    (.seq (.ops [
       ⟨(some 4), none, .move (.c (.bool false))⟩])
     .ret)))))
theorem r_lengths_need : resFn Try.prog 34 = some ⟨41, c_lengths_need.r, [.tmp 4]⟩ := by kernel_rfl
theorem k_lengths_need : c_lengths_need.ok = true := by kernel_rfl

def c_slices_IndexFunc_int_int : LC :=
 (.seq (.ops [
   ⟨(some 4), none, .move (.c (.i 0))⟩])
 (.seq (.seq (.ops [
     ⟨(some 6), none, .move (.t 0)⟩,
     ⟨(some 7), none, .lenSl (.t 6)⟩,
     ⟨(some 8), none, .move (.c (.i 0))⟩])
   (.block 0 (.loop (.seq (.ops [
        ⟨(some 9), none, .bin .lss false 3 (.t 8) (.t 7)⟩])
      (.seq (.cond (.t 9)
        .skip
        (.exit 0))
       (.seq (.block 1 (.seq (.ops [
            ⟨(some 10), none, .move (.t 8)⟩,
            ⟨(some 5), none, .move (.t 10)⟩])
          (.seq (.ops [
             ⟨(some 11), none, .move (.t 1)⟩,
             ⟨(some 12), none, .move (.t 0)⟩,
             ⟨(some 13), none, .move (.t 5)⟩,
             ⟨(some 14), none, .ixAddr 1 (.t 12) (.t 13)⟩,
             ⟨(some 15), none, .load1 (.t 14)⟩,
             ⟨(some 16), none, .callV (.t 11) [(.t 15)]⟩])
           (.cond (.t 16)
            (.seq (.ops [
               ⟨(some 17), none, .move (.t 5)⟩,
               ⟨(some 4), none, .move (.t 17)⟩])
             .ret)
            .skip))))
        (.ops [
          ⟨(some 18), none, .bin .add true 3 (.t 8) (.c (.i 1))⟩,
          ⟨(some 8), none, .move (.t 18)⟩])))))))
  (.seq (.ops [
     ⟨(some 4), none, .move (.c (.i (-1)))⟩])
   .ret)))
theorem r_slices_IndexFunc_int_int : resFn Try.prog 53 = some ⟨19, c_slices_IndexFunc_int_int.r, [.tmp 4]⟩ := by kernel_rfl
theorem k_slices_IndexFunc_int_int : c_slices_IndexFunc_int_int.ok = true := by kernel_rfl

def c_slices_ContainsFunc_int_int : LC :=
 (.seq (.ops [
   ⟨(some 4), none, .move (.c (.bool false))⟩])
 (.seq (.ops [
    ⟨(some 5), none, .move (.t 0)⟩,
    ⟨(some 6), none, .move (.t 1)⟩,
    ⟨(some 7), none, .callV (.c (.fn (.func 53) [] [])) [(.t 5), (.t 6)]⟩,
    ⟨(some 8), none, .bin .geq true 3 (.t 7) (.c (.i 0))⟩,
    ⟨(some 4), none, .move (.t 8)⟩])
  .ret))
theorem r_slices_ContainsFunc_int_int : resFn Try.prog 37 = some ⟨9, c_slices_ContainsFunc_int_int.r, [.tmp 4]⟩ := by kernel_rfl
theorem k_slices_ContainsFunc_int_int : c_slices_ContainsFunc_int_int.ok = true := by kernel_rfl



theorem eqbP (a b : Bool) : eqA Try.prog false 4 (.bool a) (.bool b) = some (a == b) := by cases a <;> cases b <;> kernel_rfl
theorem lengths_shape_ok (k : Int) : FnS Try.prog 48 [.i k] (.tup [.i (((shapeN k).getD 0 : Nat) : Int), .bool (shapeN k).isSome]) [] := by
  refine FnS.val rfl (call_body r_lengths_shape k_lengths_shape (by simp) ?_)
  by_cases h1 : k = 1; · subst h1; simp [c_lengths_shape, shapeN]
  by_cases h2 : k = 2; · subst h2; simp [c_lengths_shape, shapeN]
  by_cases h3 : k = 3; · subst h3; simp [c_lengths_shape, shapeN]
  by_cases h4 : k = 4; · subst h4; simp [c_lengths_shape, shapeN]
  by_cases h5 : k = 5; · subst h5; simp [c_lengths_shape, shapeN]
  by_cases h6 : k = 6; · subst h6; simp [c_lengths_shape, shapeN]
  by_cases h7 : k = 7; · subst h7; simp [c_lengths_shape, shapeN]
  by_cases h8 : k = 8; · subst h8; simp [c_lengths_shape, shapeN]
  by_cases h9 : k = 9; · subst h9; simp [c_lengths_shape, shapeN]
  by_cases h10 : k = 10; · subst h10; simp [c_lengths_shape, shapeN]
  by_cases h11 : k = 11; · subst h11; simp [c_lengths_shape, shapeN]
  by_cases h12 : k = 12; · subst h12; simp [c_lengths_shape, shapeN]
  by_cases h13 : k = 13; · subst h13; simp [c_lengths_shape, shapeN]
  by_cases h14 : k = 14; · subst h14; simp [c_lengths_shape, shapeN]
  by_cases h15 : k = 15; · subst h15; simp [c_lengths_shape, shapeN]
  by_cases h16 : k = 16; · subst h16; simp [c_lengths_shape, shapeN]
  simp [c_lengths_shape, shapeN, h1, h2, h3, h4, h5, h6, h7, h8, h9, h10, h11, h12, h13, h14, h15, h16]
theorem lengths_number_ok (o : Ko) : FnS Try.prog 49 [.agg o.f] (.bool (numB o)) [] := by
  refine FnS.val rfl (call_body r_lengths_number k_lengths_number (by simp) ?_)
  by_cases h1 : o.kind = 1; · simp [c_lengths_number, Ko.f, numB, h1]
  by_cases h2 : o.kind = 13
  · by_cases g : 1 ≤ o.imm <;> simp [c_lengths_number, Ko.f, numB, h1, h2, g]
  by_cases h3 : o.kind = 15
  · by_cases g : 1 ≤ o.imm <;> simp [c_lengths_number, Ko.f, numB, h1, h2, h3, g]
  simp [c_lengths_number, Ko.f, numB, h1, h2, h3]
theorem lengths_parts_ok (o : Ko) : FnS Try.prog 50 [.agg o.f] (.agg [.i o.d, .i o.e, .i o.a, .i o.b, .i o.c]) [] := by
  refine FnS.val rfl (call_body r_lengths_parts k_lengths_parts (by simp) ?_)
  simp [c_lengths_parts, Ko.f]
theorem lengths_given_ok (v : Vr) : FnS Try.prog 35 [.agg v.f] (.bool (givenB v)) [] := by
  refine FnS.val rfl (call_body r_lengths_given k_lengths_given (by simp) ?_)
  by_cases h1 : v.mode = 1 <;> simp [c_lengths_given, Vr.f, givenB, h1]
theorem need_1_any {G : LHeap} {p n st : Nat} {c : List LV} (v : Int) {K : LV → LHeap → Prop} (hg : G[p]? = some (.cells [.lst c n 3] st)) (k : K (.bool (thereB n v)) G) : CallL Try.prog (.fn 47) [.i v, .ptr p 0] G K := by
  refine call_body r_lengths_need_1 k_lengths_need_1 (by simp) ?_
  by_cases h1 : 0 ≤ v
  · by_cases h2 : v < n <;> simp [c_lengths_need_1, hg, thereB, h1, h2] at k ⊢ <;> exact k
  · simp [c_lengths_need_1, hg, thereB, h1] at k ⊢; exact k
theorem lengths_need_ok (c : List LV) (n : Nat) (o : Ko) : FnS Try.prog 34 [.lst c n 3, .agg o.f] (.bool (needB n o)) [] := by
  refine FnS.val rfl (call_body r_lengths_need k_lengths_need (by simp) ?_)
  by_cases h1 : o.d = -1
  case neg => simp [c_lengths_need, Ko.f, needB, h1]
  by_cases h2 : o.e = -1
  case neg => simp [c_lengths_need, Ko.f, needB, h1, h2]
  by_cases h3 : o.c = -1
  case neg => simp [c_lengths_need, Ko.f, needB, h1, h2, h3]
  simp [c_lengths_need, Ko.f, h1, h2, h3]
  refine need_1_any o.a rfl ?_
  cases ha : thereB n o.a with
  | false => simp [needB, ha]
  | true =>
    by_cases i2 : o.imm = 2
    · simp [i2]
      refine need_1_any o.b rfl ?_
      simp [needB, h1, h2, h3, ha, i2]
    by_cases i1 : o.imm = 1
    · simp [needB, h1, h2, h3, ha, i2, i1]
    by_cases i3 : o.imm = 3
    · simp [needB, h1, h2, h3, ha, i2, i1, i3]
    simp [needB, h1, h2, h3, ha, i2, i1, i3]
/-- A row of numbers, looked through by a function that leaves all as it is. -/
theorem IndexFunc_any {G : LHeap} {l : List Int} {f : Nat} {a b : List LV} {p : Int → Bool} {K : LV → LHeap → Prop} (hl : l.length ≤ 9223372036854775807)
    (hf : ∀ v ∈ l, ∀ K' : LV → LHeap → Prop, K' (.bool (p v)) G → CallL Try.prog (.fn f) (a ++ [.i v] ++ b) G K') (k : K (.i (ixZ p l)) G) : CallL Try.prog (.fn 53) [.lst (l.map .i) l.length 1, .fn (.func f) a b] G K := by
  refine call_body r_slices_IndexFunc_int_int k_slices_IndexFunc_int_int (by simp) ?_
  simp [c_slices_IndexFunc_int_int]
  refine loop_nx (fun ρ D G' N => ∃ i : Nat, D = [] ∧ G' = G ∧ N + i = l.length ∧ lk ρ 0 = .lst (l.map .i) l.length 1 ∧ lk ρ 1 = .fn (.func f) a b ∧ lk ρ 7 = .i l.length ∧ lk ρ 8 = .i i ∧ ∀ j b, j < i → l[j]? = some b → p b = false) (N := l.length) ⟨0, by simp⟩ ?_
  rintro N ρ D G' ⟨i, rfl, rfl, hN, h0, h1, h7, h8, hn⟩ Nx hNx
  by_cases hi : l.length ≤ i
  · have g : ¬ i < l.length := by omega
    simp [h0, h1, h7, h8, g]
    rw [← ixZ_none hi hn]
    exact k
  · have g : i < l.length := by omega
    have hg := List.getElem?_eq_getElem g
    simp [h0, h1, h7, h8, g]
    simp [nthL_at (map_at (f := LV.i) hg)]
    have hh := hf l[i] (List.getElem_mem g)
    simp only [List.append_assoc, List.singleton_append] at hh
    refine hh _ ?_
    cases hb : p l[i] with
    | true =>
      simp
      rw [← ixZ_at hg hb hn]
      exact k
    | false =>
      simp [h8]
      refine ⟨by omega, hNx _ _ _ ⟨N - 1, by omega, i + 1, rfl, rfl, by omega, by simp [h0], by simp [h1], by simp [h7], by simp, fun j b hj hjb => ?_⟩⟩
      by_cases e : j = i
      · subst e; rw [hg] at hjb; cases hjb; exact hb
      · exact hn j b (by omega) hjb
theorem ContainsFunc_any {G : LHeap} {l : List Int} {f : Nat} {a b : List LV} {p : Int → Bool} {K : LV → LHeap → Prop} (hl : l.length ≤ 9223372036854775807)
    (hf : ∀ v ∈ l, ∀ K' : LV → LHeap → Prop, K' (.bool (p v)) G → CallL Try.prog (.fn f) (a ++ [.i v] ++ b) G K') (k : K (.bool (l.any p)) G) : CallL Try.prog (.fn 37) [.lst (l.map .i) l.length 1, .fn (.func f) a b] G K := by
  refine call_body r_slices_ContainsFunc_int_int k_slices_ContainsFunc_int_int (by simp) ?_
  simp [c_slices_ContainsFunc_int_int]
  refine IndexFunc_any hl hf ?_
  simp
  rw [ixZ_any]
  exact k
end Go.Proofs.Ytknbplplhbfggaa
