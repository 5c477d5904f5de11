/- Instructions: the document's flags, jumps, names. -/
import Derived.Test.YtbcfbojigokplaaFnRi
namespace Go.Proofs.Ytbcfbojigokplaa
open Go.Sv
set_option linter.unusedSimpArgs false
set_option maxRecDepth 10000

def c_ref05_Jump : LC :=
 (.seq (.ops [
   ⟨(some 1), none, .box (.t 0)⟩,
   ⟨(some 2), none, .move (.c (.bool false))⟩])
 (.seq (.ops [
    ⟨(some 3), none, .loadN 9 (.t 1)⟩,
    ⟨(some 4), none, .callV (.c (.fn (.func 20) [] [])) [(.t 3)]⟩,
    ⟨(some 5), none, .bin .eql true 27 (.t 4) (.c (.i 0))⟩,
    ⟨(some 6), none, .move (.t 5)⟩,
    ⟨(some 7), (some (6, true)), .fieldAddr 0 (.t 1)⟩,
    ⟨(some 8), (some (6, true)), .load1 (.t 7)⟩,
    ⟨(some 9), (some (6, true)), .bin .eql true 3 (.t 8) (.c (.i 30))⟩,
    ⟨(some 10), (some (6, true)), .move (.t 9)⟩,
    ⟨(some 11), (some (10, false)), .fieldAddr 0 (.t 1)⟩,
    ⟨(some 12), (some (10, false)), .load1 (.t 11)⟩,
    ⟨(some 13), (some (10, false)), .bin .eql true 3 (.t 12) (.c (.i 31))⟩,
    ⟨(some 14), (some (6, true)), .pick (.t 10) (.c (.bool true)) (.t 13)⟩,
    ⟨(some 15), (some (6, true)), .move (.t 14)⟩,
    ⟨(some 16), (some (15, false)), .fieldAddr 0 (.t 1)⟩,
    ⟨(some 17), (some (15, false)), .load1 (.t 16)⟩,
    ⟨(some 18), (some (15, false)), .bin .eql true 3 (.t 17) (.c (.i 32))⟩,
    ⟨(some 19), (some (6, true)), .pick (.t 15) (.c (.bool true)) (.t 18)⟩,
    ⟨(some 20), none, .pick (.t 6) (.t 19) (.c (.bool false))⟩,
    ⟨(some 2), none, .move (.t 20)⟩])
  .ret))
theorem r_ref05_Jump : resFn Try.prog 23 = some ⟨21, c_ref05_Jump.r, [.tmp 2]⟩ := by kernel_rfl
theorem k_ref05_Jump : c_ref05_Jump.ok = true := by kernel_rfl

def c_ref05_Flags : LC :=
 (.seq (.ops [
   ⟨(some 1), none, .box (.t 0)⟩,
   ⟨(some 2), none, .move (.c (.i 0))⟩,
   ⟨(some 3), none, .move (.c (.i 0))⟩])
 (.seq (.seq (.ops [
     ⟨(some 6), none, .loadN 9 (.t 1)⟩,
     ⟨(some 7), none, .callV (.c (.fn (.func 20) [] [])) [(.t 6)]⟩,
     ⟨(some 8), none, .bin .neq true 27 (.t 7) (.c (.i 0))⟩])
   (.cond (.t 8)
    (.seq (.ops [
       ⟨(some 2), none, .move (.c (.i 0))⟩,
       ⟨(some 3), none, .move (.c (.i 0))⟩])
     .ret)
    .skip))
  (.seq (.ops [
     ⟨(some 4), none, .move (.c (.i 0))⟩,
     ⟨(some 5), none, .move (.c (.i 0))⟩])
   (.seq (.seq (.ops [
       ⟨(some 9), none, .fieldAddr 0 (.t 1)⟩,
       ⟨(some 10), none, .load1 (.t 9)⟩])
     (.block 0 (.seq (.seq (.ops [
          ⟨(some 12), none, .bin .eql true 3 (.t 10) (.c (.i 7))⟩,
          ⟨(some 11), none, .move (.t 12)⟩])
        (.cond (.t 11)
         .skip
         (.seq (.ops [
            ⟨(some 13), none, .bin .eql true 3 (.t 10) (.c (.i 9))⟩,
            ⟨(some 11), none, .move (.t 13)⟩])
          (.cond (.t 11)
           .skip
           (.seq (.ops [
              ⟨(some 14), none, .bin .eql true 3 (.t 10) (.c (.i 20))⟩,
              ⟨(some 11), none, .move (.t 14)⟩])
            (.cond (.t 11)
             .skip
             (.seq (.ops [
                ⟨(some 15), none, .bin .eql true 3 (.t 10) (.c (.i 26))⟩,
                ⟨(some 11), none, .move (.t 15)⟩])
              (.cond (.t 11)
               .skip
               (.ops [
                 ⟨(some 16), none, .bin .eql true 3 (.t 10) (.c (.i 32))⟩,
                 ⟨(some 11), none, .move (.t 16)⟩])))))))))
       (.cond (.t 11)
        (.ops [
          ⟨(some 4), none, .move (.c (.i 1))⟩])
        (.seq (.ops [
           ⟨(some 18), none, .bin .eql true 3 (.t 10) (.c (.i 21))⟩,
           ⟨(some 17), none, .move (.t 18)⟩])
         (.cond (.t 17)
          (.ops [
            ⟨(some 4), none, .move (.c (.i 2))⟩])
          (.seq (.seq (.ops [
              ⟨(some 20), none, .bin .eql true 3 (.t 10) (.c (.i 27))⟩,
              ⟨(some 19), none, .move (.t 20)⟩])
            (.cond (.t 19)
             .skip
             (.ops [
               ⟨(some 21), none, .bin .eql true 3 (.t 10) (.c (.i 31))⟩,
               ⟨(some 19), none, .move (.t 21)⟩])))
           (.cond (.t 19)
            (.ops [
              ⟨(some 4), none, .move (.c (.i 4))⟩])
            .skip))))))))
    (.seq (.block 1 (.seq (.ops [
         ⟨(some 23), none, .fieldAddr 0 (.t 1)⟩,
         ⟨(some 24), none, .load1 (.t 23)⟩,
         ⟨(some 25), none, .bin .geq true 3 (.t 24) (.c (.i 6))⟩,
         ⟨(some 26), none, .move (.t 25)⟩,
         ⟨(some 27), (some (26, true)), .fieldAddr 0 (.t 1)⟩,
         ⟨(some 28), (some (26, true)), .load1 (.t 27)⟩,
         ⟨(some 29), (some (26, true)), .bin .leq true 3 (.t 28) (.c (.i 18))⟩,
         ⟨(some 30), none, .pick (.t 26) (.t 29) (.c (.bool false))⟩,
         ⟨(some 31), none, .move (.t 30)⟩,
         ⟨(some 32), (some (31, false)), .fieldAddr 0 (.t 1)⟩,
         ⟨(some 33), (some (31, false)), .load1 (.t 32)⟩,
         ⟨(some 34), (some (31, false)), .bin .eql true 3 (.t 33) (.c (.i 22))⟩,
         ⟨(some 35), none, .pick (.t 31) (.c (.bool true)) (.t 34)⟩,
         ⟨(some 22), none, .move (.t 35)⟩])
       (.cond (.t 22)
        (.ops [
          ⟨(some 5), none, .move (.c (.i 7))⟩])
        (.seq (.ops [
           ⟨(some 37), none, .fieldAddr 0 (.t 1)⟩,
           ⟨(some 38), none, .load1 (.t 37)⟩,
           ⟨(some 39), none, .bin .eql true 3 (.t 38) (.c (.i 24))⟩,
           ⟨(some 40), none, .move (.t 39)⟩,
           ⟨(some 41), (some (40, false)), .fieldAddr 0 (.t 1)⟩,
           ⟨(some 42), (some (40, false)), .load1 (.t 41)⟩,
           ⟨(some 43), (some (40, false)), .bin .eql true 3 (.t 42) (.c (.i 25))⟩,
           ⟨(some 44), none, .pick (.t 40) (.c (.bool true)) (.t 43)⟩,
           ⟨(some 36), none, .move (.t 44)⟩])
         (.cond (.t 36)
          (.ops [
            ⟨(some 5), none, .move (.c (.i 5))⟩])
          (.seq (.ops [
             ⟨(some 46), none, .fieldAddr 0 (.t 1)⟩,
             ⟨(some 47), none, .load1 (.t 46)⟩,
             ⟨(some 48), none, .bin .eql true 3 (.t 47) (.c (.i 20))⟩,
             ⟨(some 45), none, .move (.t 48)⟩])
           (.cond (.t 45)
            (.ops [
              ⟨(some 5), none, .move (.c (.i 1))⟩])
            (.seq (.ops [
               ⟨(some 50), none, .fieldAddr 0 (.t 1)⟩,
               ⟨(some 51), none, .load1 (.t 50)⟩,
               ⟨(some 52), none, .bin .eql true 3 (.t 51) (.c (.i 21))⟩,
               ⟨(some 49), none, .move (.t 52)⟩])
             (.cond (.t 49)
              (.ops [
                ⟨(some 5), none, .move (.c (.i 2))⟩])
              .skip)))))))))
     (.seq (.ops [
        ⟨(some 53), none, .move (.t 4)⟩,
        ⟨(some 54), none, .move (.t 5)⟩,
        ⟨(some 2), none, .move (.t 53)⟩,
        ⟨(some 3), none, .move (.t 54)⟩])
      .ret))))))
theorem r_ref05_Flags : resFn Try.prog 19 = some ⟨55, c_ref05_Flags.r, [.tmp 2, .tmp 3]⟩ := by kernel_rfl
theorem k_ref05_Flags : c_ref05_Flags.ok = true := by kernel_rfl

def c_ref05_Name : LC :=
 (.seq (.ops [
   ⟨(some 2), none, .move (.c (.str []))⟩])
 (.seq (.seq (.ops [
     ⟨(some 3), none, .move (.t 0)⟩])
   (.block 0 (.seq (.seq (.ops [
        ⟨(some 5), none, .bin .eql true 3 (.t 3) (.c (.i 1))⟩,
        ⟨(some 4), none, .move (.t 5)⟩])
      (.cond (.t 4)
       .skip
       (.seq (.ops [
          ⟨(some 6), none, .bin .eql true 3 (.t 3) (.c (.i 2))⟩,
          ⟨(some 4), none, .move (.t 6)⟩])
        (.cond (.t 4)
         .skip
         (.seq (.ops [
            ⟨(some 7), none, .bin .eql true 3 (.t 3) (.c (.i 3))⟩,
            ⟨(some 4), none, .move (.t 7)⟩])
          (.cond (.t 4)
           .skip
           (.ops [
             ⟨(some 8), none, .bin .eql true 3 (.t 3) (.c (.i 4))⟩,
             ⟨(some 4), none, .move (.t 8)⟩])))))))
     (.cond (.t 4)
      (.seq (.ops [
         ⟨(some 2), none, .move (.c (.str [109, 111, 118]))⟩])
       .ret)
      (.seq (.ops [
         ⟨(some 10), none, .bin .eql true 3 (.t 3) (.c (.i 5))⟩,
         ⟨(some 9), none, .move (.t 10)⟩])
       (.cond (.t 9)
        (.seq (.ops [
           ⟨(some 2), none, .move (.c (.str [108, 101, 97]))⟩])
         .ret)
        (.seq (.seq (.ops [
            ⟨(some 12), none, .bin .eql true 3 (.t 3) (.c (.i 6))⟩,
            ⟨(some 11), none, .move (.t 12)⟩])
          (.cond (.t 11)
           .skip
           (.ops [
             ⟨(some 13), none, .bin .eql true 3 (.t 3) (.c (.i 15))⟩,
             ⟨(some 11), none, .move (.t 13)⟩])))
         (.cond (.t 11)
          (.seq (.ops [
             ⟨(some 2), none, .move (.c (.str [97, 100, 100]))⟩])
           .ret)
          (.seq (.ops [
             ⟨(some 15), none, .bin .eql true 3 (.t 3) (.c (.i 7))⟩,
             ⟨(some 14), none, .move (.t 15)⟩])
           (.cond (.t 14)
            (.seq (.ops [
               ⟨(some 2), none, .move (.c (.str [97, 100, 99]))⟩])
             .ret)
            (.seq (.seq (.ops [
                ⟨(some 17), none, .bin .eql true 3 (.t 3) (.c (.i 8))⟩,
                ⟨(some 16), none, .move (.t 17)⟩])
              (.cond (.t 16)
               .skip
               (.ops [
                 ⟨(some 18), none, .bin .eql true 3 (.t 3) (.c (.i 17))⟩,
                 ⟨(some 16), none, .move (.t 18)⟩])))
             (.cond (.t 16)
              (.seq (.ops [
                 ⟨(some 2), none, .move (.c (.str [115, 117, 98]))⟩])
               .ret)
              (.seq (.ops [
                 ⟨(some 20), none, .bin .eql true 3 (.t 3) (.c (.i 9))⟩,
                 ⟨(some 19), none, .move (.t 20)⟩])
               (.cond (.t 19)
                (.seq (.ops [
                   ⟨(some 2), none, .move (.c (.str [115, 98, 98]))⟩])
                 .ret)
                (.seq (.seq (.ops [
                    ⟨(some 22), none, .bin .eql true 3 (.t 3) (.c (.i 10))⟩,
                    ⟨(some 21), none, .move (.t 22)⟩])
                  (.cond (.t 21)
                   .skip
                   (.ops [
                     ⟨(some 23), none, .bin .eql true 3 (.t 3) (.c (.i 16))⟩,
                     ⟨(some 21), none, .move (.t 23)⟩])))
                 (.cond (.t 21)
                  (.seq (.ops [
                     ⟨(some 2), none, .move (.c (.str [97, 110, 100]))⟩])
                   .ret)
                  (.seq (.ops [
                     ⟨(some 25), none, .bin .eql true 3 (.t 3) (.c (.i 11))⟩,
                     ⟨(some 24), none, .move (.t 25)⟩])
                   (.cond (.t 24)
                    (.seq (.ops [
                       ⟨(some 2), none, .move (.c (.str [111, 114]))⟩])
                     .ret)
                    (.seq (.ops [
                       ⟨(some 27), none, .bin .eql true 3 (.t 3) (.c (.i 12))⟩,
                       ⟨(some 26), none, .move (.t 27)⟩])
                     (.cond (.t 26)
                      (.seq (.ops [
                         ⟨(some 2), none, .move (.c (.str [120, 111, 114]))⟩])
                       .ret)
                      (.seq (.seq (.ops [
                          ⟨(some 29), none, .bin .eql true 3 (.t 3) (.c (.i 13))⟩,
                          ⟨(some 28), none, .move (.t 29)⟩])
                        (.cond (.t 28)
                         .skip
                         (.ops [
                           ⟨(some 30), none, .bin .eql true 3 (.t 3) (.c (.i 18))⟩,
                           ⟨(some 28), none, .move (.t 30)⟩])))
                       (.cond (.t 28)
                        (.seq (.ops [
                           ⟨(some 2), none, .move (.c (.str [99, 109, 112]))⟩])
                         .ret)
                        (.seq (.ops [
                           ⟨(some 32), none, .bin .eql true 3 (.t 3) (.c (.i 14))⟩,
                           ⟨(some 31), none, .move (.t 32)⟩])
                         (.cond (.t 31)
                          (.seq (.ops [
                             ⟨(some 2), none, .move (.c (.str [116, 101, 115, 116]))⟩])
                           .ret)
                          (.seq (.ops [
                             ⟨(some 34), none, .bin .eql true 3 (.t 3) (.c (.i 19))⟩,
                             ⟨(some 33), none, .move (.t 34)⟩])
                           (.cond (.t 33)
                            (.seq (.ops [
                               ⟨(some 2), none, .move (.c (.str [109, 117, 108, 120]))⟩])
                             .ret)
                            (.seq (.ops [
                               ⟨(some 36), none, .bin .eql true 3 (.t 3) (.c (.i 20))⟩,
                               ⟨(some 35), none, .move (.t 36)⟩])
                             (.cond (.t 35)
                              (.seq (.ops [
                                 ⟨(some 2), none, .move (.c (.str [97, 100, 99, 120]))⟩])
                               .ret)
                              (.seq (.ops [
                                 ⟨(some 38), none, .bin .eql true 3 (.t 3) (.c (.i 21))⟩,
                                 ⟨(some 37), none, .move (.t 38)⟩])
                               (.cond (.t 37)
                                (.seq (.ops [
                                   ⟨(some 2), none, .move (.c (.str [97, 100, 111, 120]))⟩])
                                 .ret)
                                (.seq (.ops [
                                   ⟨(some 40), none, .bin .eql true 3 (.t 3) (.c (.i 22))⟩,
                                   ⟨(some 39), none, .move (.t 40)⟩])
                                 (.cond (.t 39)
                                  (.seq (.ops [
                                     ⟨(some 2), none, .move (.c (.str [110, 101, 103]))⟩])
                                   .ret)
                                  (.seq (.ops [
                                     ⟨(some 42), none, .bin .eql true 3 (.t 3) (.c (.i 23))⟩,
                                     ⟨(some 41), none, .move (.t 42)⟩])
                                   (.cond (.t 41)
                                    (.seq (.ops [
                                       ⟨(some 2), none, .move (.c (.str [110, 111, 116]))⟩])
                                     .ret)
                                    (.seq (.ops [
                                       ⟨(some 44), none, .bin .eql true 3 (.t 3) (.c (.i 24))⟩,
                                       ⟨(some 43), none, .move (.t 44)⟩])
                                     (.cond (.t 43)
                                      (.seq (.ops [
                                         ⟨(some 2), none, .move (.c (.str [115, 104, 108]))⟩])
                                       .ret)
                                      (.seq (.ops [
                                         ⟨(some 46), none, .bin .eql true 3 (.t 3) (.c (.i 25))⟩,
                                         ⟨(some 45), none, .move (.t 46)⟩])
                                       (.cond (.t 45)
                                        (.seq (.ops [
                                           ⟨(some 2), none, .move (.c (.str [115, 104, 114]))⟩])
                                         .ret)
                                        (.seq (.ops [
                                           ⟨(some 48), none, .bin .eql true 3 (.t 3) (.c (.i 26))⟩,
                                           ⟨(some 47), none, .move (.t 48)⟩])
                                         (.cond (.t 47)
                                          (.seq (.ops [
                                             ⟨(some 2), none, .move (.c (.str [99, 109, 111, 118, 99]))⟩])
                                           .ret)
                                          (.seq (.ops [
                                             ⟨(some 50), none, .bin .eql true 3 (.t 3) (.c (.i 27))⟩,
                                             ⟨(some 49), none, .move (.t 50)⟩])
                                           (.cond (.t 49)
                                            (.seq (.ops [
                                               ⟨(some 2), none, .move (.c (.str [99, 109, 111, 118, 110, 122]))⟩])
                                             .ret)
                                            (.seq (.ops [
                                               ⟨(some 52), none, .bin .eql true 3 (.t 3) (.c (.i 28))⟩,
                                               ⟨(some 51), none, .move (.t 52)⟩])
                                             (.cond (.t 51)
                                              (.seq (.ops [
                                                 ⟨(some 2), none, .move (.c (.str [112, 117, 115, 104]))⟩])
                                               .ret)
                                              (.seq (.ops [
                                                 ⟨(some 54), none, .bin .eql true 3 (.t 3) (.c (.i 29))⟩,
                                                 ⟨(some 53), none, .move (.t 54)⟩])
                                               (.cond (.t 53)
                                                (.seq (.ops [
                                                   ⟨(some 2), none, .move (.c (.str [112, 111, 112]))⟩])
                                                 .ret)
                                                (.seq (.ops [
                                                   ⟨(some 56), none, .bin .eql true 3 (.t 3) (.c (.i 30))⟩,
                                                   ⟨(some 55), none, .move (.t 56)⟩])
                                                 (.cond (.t 55)
                                                  (.seq (.ops [
                                                     ⟨(some 2), none, .move (.c (.str [106, 109, 112]))⟩])
                                                   .ret)
                                                  (.seq (.ops [
                                                     ⟨(some 58), none, .bin .eql true 3 (.t 3) (.c (.i 31))⟩,
                                                     ⟨(some 57), none, .move (.t 58)⟩])
                                                   (.cond (.t 57)
                                                    (.seq (.ops [
                                                       ⟨(some 2), none, .move (.c (.str [106, 110, 122]))⟩])
                                                     .ret)
                                                    (.seq (.ops [
                                                       ⟨(some 60), none, .bin .eql true 3 (.t 3) (.c (.i 32))⟩,
                                                       ⟨(some 59), none, .move (.t 60)⟩])
                                                     (.cond (.t 59)
                                                      (.seq (.ops [
                                                         ⟨(some 2), none, .move (.c (.str [106, 99]))⟩])
                                                       .ret)
                                                      (.seq (.ops [
                                                         ⟨(some 62), none, .bin .eql true 3 (.t 3) (.c (.i 33))⟩,
                                                         ⟨(some 61), none, .move (.t 62)⟩])
                                                       (.cond (.t 61)
                                                        (.seq (.ops [
                                                           ⟨(some 2), none, .move (.c (.str [114, 101, 116]))⟩])
                                                         .ret)
                                                        .skip))))))))))))))))))))))))))))))))))))))))))))))))))))))
  (.seq (.ops [
     ⟨(some 2), none, .move (.c (.str []))⟩])
   .ret)))
theorem r_ref05_Name : resFn Try.prog 24 = some ⟨63, c_ref05_Name.r, [.tmp 2]⟩ := by kernel_rfl
theorem k_ref05_Name : c_ref05_Name.ok = true := by kernel_rfl



theorem ref05_Jump_ok (x : In) : FnS Try.prog 23 [.agg x.c] (.bool (jumpB x.op && checkB x)) [] := by
  refine FnS.val rfl (call_body r_ref05_Jump k_ref05_Jump (by simp) ?_)
  have hC : x.c = [.i x.op, .i x.d, .i x.s, .i x.t, .i x.base, .i x.index, .i x.scale, .i x.disp, .i x.imm] := rfl
  simp [c_ref05_Jump, hC]
  rw [← hC]
  refine CallL_F (ref05_Check_ok x) (bors_self _ rfl) ?_
  cases hk : checkB x with
  | false => simp
  | true =>
    by_cases a1 : x.op = 30
    · simp [hC, a1, jumpB]
    by_cases a2 : x.op = 31
    · simp [hC, a2, jumpB]
    by_cases a3 : x.op = 32
    · simp [hC, a3, jumpB]
    simp [hC, a1, a2, a3, jumpB]
theorem ref05_Name_in (k : Nat) (h : k < 34) : FnS Try.prog 24 [.i k] (.str (FT.getD k ([], 0, 0, 0)).1) [] := by
  refine FnS.val rfl (call_body r_ref05_Name k_ref05_Name (by simp) ?_)
  match k, h with
  | 0, _ => simp [c_ref05_Name, FT]
  | 1, _ => simp [c_ref05_Name, FT]
  | 2, _ => simp [c_ref05_Name, FT]
  | 3, _ => simp [c_ref05_Name, FT]
  | 4, _ => simp [c_ref05_Name, FT]
  | 5, _ => simp [c_ref05_Name, FT]
  | 6, _ => simp [c_ref05_Name, FT]
  | 7, _ => simp [c_ref05_Name, FT]
  | 8, _ => simp [c_ref05_Name, FT]
  | 9, _ => simp [c_ref05_Name, FT]
  | 10, _ => simp [c_ref05_Name, FT]
  | 11, _ => simp [c_ref05_Name, FT]
  | 12, _ => simp [c_ref05_Name, FT]
  | 13, _ => simp [c_ref05_Name, FT]
  | 14, _ => simp [c_ref05_Name, FT]
  | 15, _ => simp [c_ref05_Name, FT]
  | 16, _ => simp [c_ref05_Name, FT]
  | 17, _ => simp [c_ref05_Name, FT]
  | 18, _ => simp [c_ref05_Name, FT]
  | 19, _ => simp [c_ref05_Name, FT]
  | 20, _ => simp [c_ref05_Name, FT]
  | 21, _ => simp [c_ref05_Name, FT]
  | 22, _ => simp [c_ref05_Name, FT]
  | 23, _ => simp [c_ref05_Name, FT]
  | 24, _ => simp [c_ref05_Name, FT]
  | 25, _ => simp [c_ref05_Name, FT]
  | 26, _ => simp [c_ref05_Name, FT]
  | 27, _ => simp [c_ref05_Name, FT]
  | 28, _ => simp [c_ref05_Name, FT]
  | 29, _ => simp [c_ref05_Name, FT]
  | 30, _ => simp [c_ref05_Name, FT]
  | 31, _ => simp [c_ref05_Name, FT]
  | 32, _ => simp [c_ref05_Name, FT]
  | 33, _ => simp [c_ref05_Name, FT]
  | n + 34, h => omega
theorem ref05_Name_ok (op : Int) : FnS Try.prog 24 [.i op] (.str (ftOf op).1) [] := by
  by_cases h : 0 ≤ op ∧ op < 34
  · obtain ⟨k, rfl⟩ := Int.eq_ofNat_of_zero_le h.1
    have e : ftOf k = FT.getD k ([], 0, 0, 0) := by simp only [ftOf]; rw [ix_in h.1 h.2]; rfl
    rw [e]
    exact ref05_Name_in k (by omega)
  · have e : ftOf op = ([], 0, 0, 0) := by simp [ftOf, ix_out h, FT]
    rw [e]
    refine FnS.val rfl (call_body r_ref05_Name k_ref05_Name (by simp) ?_)
    have n1 : ¬ op = 1 := by omega
    have n2 : ¬ op = 2 := by omega
    have n3 : ¬ op = 3 := by omega
    have n4 : ¬ op = 4 := by omega
    have n5 : ¬ op = 5 := by omega
    have n6 : ¬ op = 6 := by omega
    have n7 : ¬ op = 7 := by omega
    have n8 : ¬ op = 8 := by omega
    have n9 : ¬ op = 9 := by omega
    have n10 : ¬ op = 10 := by omega
    have n11 : ¬ op = 11 := by omega
    have n12 : ¬ op = 12 := by omega
    have n13 : ¬ op = 13 := by omega
    have n14 : ¬ op = 14 := by omega
    have n15 : ¬ op = 15 := by omega
    have n16 : ¬ op = 16 := by omega
    have n17 : ¬ op = 17 := by omega
    have n18 : ¬ op = 18 := by omega
    have n19 : ¬ op = 19 := by omega
    have n20 : ¬ op = 20 := by omega
    have n21 : ¬ op = 21 := by omega
    have n22 : ¬ op = 22 := by omega
    have n23 : ¬ op = 23 := by omega
    have n24 : ¬ op = 24 := by omega
    have n25 : ¬ op = 25 := by omega
    have n26 : ¬ op = 26 := by omega
    have n27 : ¬ op = 27 := by omega
    have n28 : ¬ op = 28 := by omega
    have n29 : ¬ op = 29 := by omega
    have n30 : ¬ op = 30 := by omega
    have n31 : ¬ op = 31 := by omega
    have n32 : ¬ op = 32 := by omega
    have n33 : ¬ op = 33 := by omega
    simp [c_ref05_Name, n1, n2, n3, n4, n5, n6, n7, n8, n9, n10, n11, n12, n13, n14, n15, n16, n17, n18, n19, n20, n21, n22, n23, n24, n25, n26, n27, n28, n29, n30, n31, n32, n33]
theorem ref05_Flags_in (k : Nat) (h : k < 34) (x : In) (hx : x.op = k) (hk : checkB x = true) : FnS Try.prog 19 [.agg x.c] (.tup [.i ((FT.getD k ([], 0, 0, 0)).2.2.1 : Nat), .i ((FT.getD k ([], 0, 0, 0)).2.2.2 : Nat)]) [] := by
  refine FnS.val rfl (call_body r_ref05_Flags k_ref05_Flags (by simp) ?_)
  have hC : x.c = [.i x.op, .i x.d, .i x.s, .i x.t, .i x.base, .i x.index, .i x.scale, .i x.disp, .i x.imm] := rfl
  simp [c_ref05_Flags, hC]
  rw [← hC]
  refine CallL_F (ref05_Check_ok x) (bors_self _ rfl) ?_
  simp [hk, hC, hx]
  match k, h with
  | 0, _ => simp [FT]
  | 1, _ => simp [FT]
  | 2, _ => simp [FT]
  | 3, _ => simp [FT]
  | 4, _ => simp [FT]
  | 5, _ => simp [FT]
  | 6, _ => simp [FT]
  | 7, _ => simp [FT]
  | 8, _ => simp [FT]
  | 9, _ => simp [FT]
  | 10, _ => simp [FT]
  | 11, _ => simp [FT]
  | 12, _ => simp [FT]
  | 13, _ => simp [FT]
  | 14, _ => simp [FT]
  | 15, _ => simp [FT]
  | 16, _ => simp [FT]
  | 17, _ => simp [FT]
  | 18, _ => simp [FT]
  | 19, _ => simp [FT]
  | 20, _ => simp [FT]
  | 21, _ => simp [FT]
  | 22, _ => simp [FT]
  | 23, _ => simp [FT]
  | 24, _ => simp [FT]
  | 25, _ => simp [FT]
  | 26, _ => simp [FT]
  | 27, _ => simp [FT]
  | 28, _ => simp [FT]
  | 29, _ => simp [FT]
  | 30, _ => simp [FT]
  | 31, _ => simp [FT]
  | 32, _ => simp [FT]
  | 33, _ => simp [FT]
  | n + 34, h => omega
theorem ref05_Flags_ok (x : In) : FnS Try.prog 19 [.agg x.c] (.tup [.i (if checkB x = true then ((ftOf x.op).2.2.1 : Int) else 0), .i (if checkB x = true then ((ftOf x.op).2.2.2 : Int) else 0)]) [] := by
  cases hk : checkB x with
  | false =>
    refine FnS.val rfl (call_body r_ref05_Flags k_ref05_Flags (by simp) ?_)
    have hC : x.c = [.i x.op, .i x.d, .i x.s, .i x.t, .i x.base, .i x.index, .i x.scale, .i x.disp, .i x.imm] := rfl
    simp [c_ref05_Flags, hC]
    rw [← hC]
    refine CallL_F (ref05_Check_ok x) (bors_self _ rfl) ?_
    simp [hk]
  | true =>
    have hn := check_name hk
    have h1 := name_none.1 hn
    obtain ⟨k, hx⟩ := Int.eq_ofNat_of_zero_le (show 0 ≤ x.op by omega)
    have e : ftOf x.op = FT.getD k ([], 0, 0, 0) := by rw [hx]; simp only [ftOf]; rw [ix_in (by omega) (by omega)]; rfl
    have h := ref05_Flags_in k (by omega) x hx hk
    rw [e]
    simpa using h
end Go.Proofs.Ytbcfbojigokplaa
