/- Instructions: the document's answer: letters, places. -/
import Derived.Test.YtbcfbojigokplaaSvG4
import Derived.Test.YtbcfbojigokplaaFnU
import Derived.Test.YtbcfbojigokplaaFnSm
namespace Go.Proofs.Ytbcfbojigokplaa
open Go.Sv
set_option linter.unusedSimpArgs false
set_option maxRecDepth 10000

def c_ref05_Has : LC :=
 (.seq (.ops [
   ⟨(some 4), none, .move (.c (.bool false))⟩])
 (.seq (.seq (.ops [
     ⟨(some 5), none, .move (.c (.i 0))⟩])
   (.block 0 (.loop (.seq (.seq (.ops [
         ⟨(some 6), none, .move (.t 5)⟩,
         ⟨(some 7), none, .move (.t 0)⟩,
         ⟨(some 8), none, .lenStr (.t 7)⟩,
         ⟨(some 9), none, .bin .lss false 3 (.t 6) (.t 8)⟩])
       (.cond (.t 9)
        .skip
        (.exit 0)))
      (.seq (.block 1 (.seq (.ops [
           ⟨(some 12), none, .move (.t 0)⟩,
           ⟨(some 13), none, .move (.t 5)⟩,
           ⟨(some 14), none, .ixStr (.t 12) (.t 13)⟩,
           ⟨(some 15), none, .move (.t 1)⟩,
           ⟨(some 16), none, .bin .eql false 5 (.t 14) (.t 15)⟩])
         (.cond (.t 16)
          (.seq (.ops [
             ⟨(some 4), none, .move (.c (.bool true))⟩])
           .ret)
          .skip)))
       (.ops [
         ⟨(some 10), none, .move (.t 5)⟩,
         ⟨(some 11), none, .bin .add true 3 (.t 10) (.c (.i 1))⟩,
         ⟨(some 5), none, .move (.t 11)⟩]))))))
  (.seq (.ops [
     ⟨(some 4), none, .move (.c (.bool false))⟩])
   .ret)))
theorem r_ref05_Has : resFn Try.prog 32 = some ⟨17, c_ref05_Has.r, [.tmp 4]⟩ := by kernel_rfl
theorem k_ref05_Has : c_ref05_Has.ok = true := by kernel_rfl

def c_ref05_small : LC :=
 (.seq (.ops [
   ⟨(some 2), none, .move (.c (.bool false))⟩])
 (.seq (.ops [
    ⟨(some 3), none, .move (.t 0)⟩,
    ⟨(some 4), none, .bin .geq true 2 (.t 3) (.c (.i (-2147483648)))⟩,
    ⟨(some 5), none, .move (.t 4)⟩,
    ⟨(some 6), (some (5, true)), .move (.t 0)⟩,
    ⟨(some 7), (some (5, true)), .bin .lss true 2 (.t 6) (.c (.i 2147483648))⟩,
    ⟨(some 8), none, .pick (.t 5) (.t 7) (.c (.bool false))⟩,
    ⟨(some 2), none, .move (.t 8)⟩])
  .ret))
theorem r_ref05_small : resFn Try.prog 35 = some ⟨9, c_ref05_small.r, [.tmp 2]⟩ := by kernel_rfl
theorem k_ref05_small : c_ref05_small.ok = true := by kernel_rfl

def c_ref05_place : LC :=
 (.seq (.ops [
   ⟨(some 1), none, .box (.t 0)⟩,
   ⟨(some 2), none, .move (.c (.bool false))⟩])
 (.seq (.seq (.ops [
     ⟨(some 3), none, .fieldAddr 0 (.t 1)⟩,
     ⟨(some 4), none, .load1 (.t 3)⟩,
     ⟨(some 5), none, .callV (.c (.fn (.func 33) [] [])) [(.t 4)]⟩,
     ⟨(some 6), none, .un .not (.t 5)⟩,
     ⟨(some 7), none, .move (.t 6)⟩,
     ⟨(some 8), (some (7, false)), .fieldAddr 3 (.t 1)⟩,
     ⟨(some 9), (some (7, false)), .load1 (.t 8)⟩,
     ⟨(some 10), (some (7, false)), .callV (.c (.fn (.func 35) [] [])) [(.t 9)]⟩,
     ⟨(some 11), (some (7, false)), .un .not (.t 10)⟩,
     ⟨(some 12), none, .pick (.t 7) (.c (.bool true)) (.t 11)⟩])
   (.cond (.t 12)
    (.seq (.ops [
       ⟨(some 2), none, .move (.c (.bool false))⟩])
     .ret)
    .skip))
  (.seq (.seq (.ops [
      ⟨(some 13), none, .fieldAddr 1 (.t 1)⟩,
      ⟨(some 14), none, .load1 (.t 13)⟩,
      ⟨(some 15), none, .bin .eql true 3 (.t 14) (.c (.i (-1)))⟩])
    (.cond (.t 15)
     (.seq (.ops [
        ⟨(some 16), none, .fieldAddr 2 (.t 1)⟩,
        ⟨(some 17), none, .load1 (.t 16)⟩,
        ⟨(some 18), none, .bin .eql true 3 (.t 17) (.c (.i 1))⟩,
        ⟨(some 2), none, .move (.t 18)⟩])
      .ret)
     .skip))
   (.seq (.ops [
      ⟨(some 19), none, .fieldAddr 1 (.t 1)⟩,
      ⟨(some 20), none, .load1 (.t 19)⟩,
      ⟨(some 21), none, .callV (.c (.fn (.func 33) [] [])) [(.t 20)]⟩,
      ⟨(some 22), none, .move (.t 21)⟩,
      ⟨(some 23), (some (22, true)), .fieldAddr 1 (.t 1)⟩,
      ⟨(some 24), (some (22, true)), .load1 (.t 23)⟩,
      ⟨(some 25), (some (22, true)), .bin .neq true 3 (.t 24) (.c (.i 4))⟩,
      ⟨(some 26), none, .pick (.t 22) (.t 25) (.c (.bool false))⟩,
      ⟨(some 27), none, .move (.t 26)⟩,
      ⟨(some 28), (some (27, true)), .fieldAddr 2 (.t 1)⟩,
      ⟨(some 29), (some (27, true)), .load1 (.t 28)⟩,
      ⟨(some 30), (some (27, true)), .bin .eql true 3 (.t 29) (.c (.i 1))⟩,
      ⟨(some 31), (some (27, true)), .move (.t 30)⟩,
      ⟨(some 32), (some (31, false)), .fieldAddr 2 (.t 1)⟩,
      ⟨(some 33), (some (31, false)), .load1 (.t 32)⟩,
      ⟨(some 34), (some (31, false)), .bin .eql true 3 (.t 33) (.c (.i 2))⟩,
      ⟨(some 35), (some (27, true)), .pick (.t 31) (.c (.bool true)) (.t 34)⟩,
      ⟨(some 36), (some (27, true)), .move (.t 35)⟩,
      ⟨(some 37), (some (36, false)), .fieldAddr 2 (.t 1)⟩,
      ⟨(some 38), (some (36, false)), .load1 (.t 37)⟩,
      ⟨(some 39), (some (36, false)), .bin .eql true 3 (.t 38) (.c (.i 4))⟩,
      ⟨(some 40), (some (27, true)), .pick (.t 36) (.c (.bool true)) (.t 39)⟩,
      ⟨(some 41), (some (27, true)), .move (.t 40)⟩,
      ⟨(some 42), (some (41, false)), .fieldAddr 2 (.t 1)⟩,
      ⟨(some 43), (some (41, false)), .load1 (.t 42)⟩,
      ⟨(some 44), (some (41, false)), .bin .eql true 3 (.t 43) (.c (.i 8))⟩,
      ⟨(some 45), (some (27, true)), .pick (.t 41) (.c (.bool true)) (.t 44)⟩,
      ⟨(some 46), none, .pick (.t 27) (.t 45) (.c (.bool false))⟩,
      ⟨(some 2), none, .move (.t 46)⟩])
    .ret))))
theorem r_ref05_place : resFn Try.prog 34 = some ⟨47, c_ref05_place.r, [.tmp 2]⟩ := by kernel_rfl
theorem k_ref05_place : c_ref05_place.ok = true := by kernel_rfl

def c_ref05_Check : LC :=
 (.seq (.ops [
   ⟨(some 1), none, .box (.t 0)⟩,
   ⟨(some 2), none, .move (.c (.i 0))⟩])
 (.seq (.ops [
    ⟨(some 5), none, .fieldAddr 0 (.t 1)⟩,
    ⟨(some 6), none, .load1 (.t 5)⟩,
    ⟨(some 7), none, .callV (.c (.fn (.func 16) [] [])) [(.t 6)]⟩,
    ⟨(some 3), none, .move (.t 7)⟩])
  (.seq (.ops [
     ⟨(some 8), none, .move (.t 3)⟩,
     ⟨(some 9), none, .bin .neq true 9 (.t 8) (.c (.str []))⟩,
     ⟨(some 4), none, .move (.t 9)⟩])
   (.seq (.ops [
      ⟨(some 10), none, .move (.t 4)⟩,
      ⟨(some 11), none, .move (.t 10)⟩,
      ⟨(some 12), (some (11, true)), .move (.t 3)⟩,
      ⟨(some 13), (some (11, true)), .callV (.c (.fn (.func 32) [] [])) [(.t 12), (.c (.b 68))]⟩,
      ⟨(some 14), (some (11, true)), .move (.t 13)⟩,
      ⟨(some 15), (some (14, true)), .fieldAddr 1 (.t 1)⟩,
      ⟨(some 16), (some (14, true)), .load1 (.t 15)⟩,
      ⟨(some 17), (some (14, true)), .callV (.c (.fn (.func 33) [] [])) [(.t 16)]⟩,
      ⟨(some 18), (some (11, true)), .pick (.t 14) (.t 17) (.c (.bool false))⟩,
      ⟨(some 19), (some (11, true)), .move (.t 18)⟩,
      ⟨(some 20), (some (19, false)), .move (.t 3)⟩,
      ⟨(some 21), (some (19, false)), .callV (.c (.fn (.func 32) [] [])) [(.t 20), (.c (.b 68))]⟩,
      ⟨(some 22), (some (19, false)), .un .not (.t 21)⟩,
      ⟨(some 23), (some (19, false)), .move (.t 22)⟩,
      ⟨(some 24), (some (23, true)), .fieldAddr 1 (.t 1)⟩,
      ⟨(some 25), (some (23, true)), .load1 (.t 24)⟩,
      ⟨(some 26), (some (23, true)), .bin .eql true 3 (.t 25) (.c (.i 0))⟩,
      ⟨(some 27), (some (19, false)), .pick (.t 23) (.t 26) (.c (.bool false))⟩,
      ⟨(some 28), (some (11, true)), .pick (.t 19) (.c (.bool true)) (.t 27)⟩,
      ⟨(some 29), none, .pick (.t 11) (.t 28) (.c (.bool false))⟩,
      ⟨(some 4), none, .move (.t 29)⟩])
    (.seq (.ops [
       ⟨(some 30), none, .move (.t 4)⟩,
       ⟨(some 31), none, .move (.t 30)⟩,
       ⟨(some 32), (some (31, true)), .move (.t 3)⟩,
       ⟨(some 33), (some (31, true)), .callV (.c (.fn (.func 32) [] [])) [(.t 32), (.c (.b 83))]⟩,
       ⟨(some 34), (some (31, true)), .move (.t 33)⟩,
       ⟨(some 35), (some (34, true)), .fieldAddr 2 (.t 1)⟩,
       ⟨(some 36), (some (34, true)), .load1 (.t 35)⟩,
       ⟨(some 37), (some (34, true)), .callV (.c (.fn (.func 33) [] [])) [(.t 36)]⟩,
       ⟨(some 38), (some (31, true)), .pick (.t 34) (.t 37) (.c (.bool false))⟩,
       ⟨(some 39), (some (31, true)), .move (.t 38)⟩,
       ⟨(some 40), (some (39, false)), .move (.t 3)⟩,
       ⟨(some 41), (some (39, false)), .callV (.c (.fn (.func 32) [] [])) [(.t 40), (.c (.b 83))]⟩,
       ⟨(some 42), (some (39, false)), .un .not (.t 41)⟩,
       ⟨(some 43), (some (39, false)), .move (.t 42)⟩,
       ⟨(some 44), (some (43, true)), .fieldAddr 2 (.t 1)⟩,
       ⟨(some 45), (some (43, true)), .load1 (.t 44)⟩,
       ⟨(some 46), (some (43, true)), .bin .eql true 3 (.t 45) (.c (.i 0))⟩,
       ⟨(some 47), (some (39, false)), .pick (.t 43) (.t 46) (.c (.bool false))⟩,
       ⟨(some 48), (some (31, true)), .pick (.t 39) (.c (.bool true)) (.t 47)⟩,
       ⟨(some 49), none, .pick (.t 31) (.t 48) (.c (.bool false))⟩,
       ⟨(some 4), none, .move (.t 49)⟩])
     (.seq (.ops [
        ⟨(some 50), none, .move (.t 4)⟩,
        ⟨(some 51), none, .move (.t 50)⟩,
        ⟨(some 52), (some (51, true)), .move (.t 3)⟩,
        ⟨(some 53), (some (51, true)), .callV (.c (.fn (.func 32) [] [])) [(.t 52), (.c (.b 84))]⟩,
        ⟨(some 54), (some (51, true)), .move (.t 53)⟩,
        ⟨(some 55), (some (54, true)), .fieldAddr 3 (.t 1)⟩,
        ⟨(some 56), (some (54, true)), .load1 (.t 55)⟩,
        ⟨(some 57), (some (54, true)), .callV (.c (.fn (.func 33) [] [])) [(.t 56)]⟩,
        ⟨(some 58), (some (51, true)), .pick (.t 54) (.t 57) (.c (.bool false))⟩,
        ⟨(some 59), (some (51, true)), .move (.t 58)⟩,
        ⟨(some 60), (some (59, true)), .fieldAddr 1 (.t 1)⟩,
        ⟨(some 61), (some (59, true)), .load1 (.t 60)⟩,
        ⟨(some 62), (some (59, true)), .fieldAddr 2 (.t 1)⟩,
        ⟨(some 63), (some (59, true)), .load1 (.t 62)⟩,
        ⟨(some 64), (some (59, true)), .bin .neq false 3 (.t 61) (.t 63)⟩,
        ⟨(some 65), (some (51, true)), .pick (.t 59) (.t 64) (.c (.bool false))⟩,
        ⟨(some 66), (some (51, true)), .move (.t 65)⟩,
        ⟨(some 67), (some (66, false)), .move (.t 3)⟩,
        ⟨(some 68), (some (66, false)), .callV (.c (.fn (.func 32) [] [])) [(.t 67), (.c (.b 84))]⟩,
        ⟨(some 69), (some (66, false)), .un .not (.t 68)⟩,
        ⟨(some 70), (some (66, false)), .move (.t 69)⟩,
        ⟨(some 71), (some (70, true)), .fieldAddr 3 (.t 1)⟩,
        ⟨(some 72), (some (70, true)), .load1 (.t 71)⟩,
        ⟨(some 73), (some (70, true)), .bin .eql true 3 (.t 72) (.c (.i 0))⟩,
        ⟨(some 74), (some (66, false)), .pick (.t 70) (.t 73) (.c (.bool false))⟩,
        ⟨(some 75), (some (51, true)), .pick (.t 66) (.c (.bool true)) (.t 74)⟩,
        ⟨(some 76), none, .pick (.t 51) (.t 75) (.c (.bool false))⟩,
        ⟨(some 4), none, .move (.t 76)⟩])
      (.seq (.ops [
         ⟨(some 77), none, .move (.t 4)⟩,
         ⟨(some 78), none, .move (.t 77)⟩,
         ⟨(some 79), (some (78, true)), .move (.t 3)⟩,
         ⟨(some 80), (some (78, true)), .callV (.c (.fn (.func 32) [] [])) [(.t 79), (.c (.b 77))]⟩,
         ⟨(some 81), (some (78, true)), .move (.t 80)⟩,
         ⟨(some 82), (some (81, true)), .fieldAddr 4 (.t 1)⟩,
         ⟨(some 83), (some (81, true)), .loadN 4 (.t 82)⟩,
         ⟨(some 84), (some (81, true)), .callV (.c (.fn (.func 34) [] [])) [(.t 83)]⟩,
         ⟨(some 85), (some (78, true)), .pick (.t 81) (.t 84) (.c (.bool false))⟩,
         ⟨(some 86), (some (78, true)), .move (.t 85)⟩,
         ⟨(some 87), (some (86, false)), .move (.t 3)⟩,
         ⟨(some 88), (some (86, false)), .callV (.c (.fn (.func 32) [] [])) [(.t 87), (.c (.b 77))]⟩,
         ⟨(some 89), (some (86, false)), .un .not (.t 88)⟩,
         ⟨(some 90), (some (86, false)), .move (.t 89)⟩,
         ⟨(some 91), (some (90, true)), .fieldAddr 4 (.t 1)⟩,
         ⟨(some 92), (some (90, true)), .loadN 4 (.t 91)⟩,
         ⟨(some 93), (some (90, true)), .build [(.i 0), (.i 0), (.i 0), (.i 0)] []⟩,
         ⟨(some 94), (some (90, true)), .bin .eql false 23 (.t 92) (.t 93)⟩,
         ⟨(some 95), (some (86, false)), .pick (.t 90) (.t 94) (.c (.bool false))⟩,
         ⟨(some 96), (some (78, true)), .pick (.t 86) (.c (.bool true)) (.t 95)⟩,
         ⟨(some 97), none, .pick (.t 78) (.t 96) (.c (.bool false))⟩,
         ⟨(some 4), none, .move (.t 97)⟩])
       (.seq (.block 0 (.seq (.ops [
            ⟨(some 99), none, .move (.t 3)⟩,
            ⟨(some 100), none, .callV (.c (.fn (.func 32) [] [])) [(.t 99), (.c (.b 105))]⟩,
            ⟨(some 98), none, .move (.t 100)⟩])
          (.cond (.t 98)
           (.ops [
             ⟨(some 101), none, .move (.t 4)⟩,
             ⟨(some 102), none, .move (.t 101)⟩,
             ⟨(some 103), (some (102, true)), .fieldAddr 8 (.t 1)⟩,
             ⟨(some 104), (some (102, true)), .load1 (.t 103)⟩,
             ⟨(some 105), (some (102, true)), .callV (.c (.fn (.func 35) [] [])) [(.t 104)]⟩,
             ⟨(some 106), none, .pick (.t 102) (.t 105) (.c (.bool false))⟩,
             ⟨(some 4), none, .move (.t 106)⟩])
           (.seq (.ops [
              ⟨(some 108), none, .move (.t 3)⟩,
              ⟨(some 109), none, .callV (.c (.fn (.func 32) [] [])) [(.t 108), (.c (.b 98))]⟩,
              ⟨(some 107), none, .move (.t 109)⟩])
            (.cond (.t 107)
             (.ops [
               ⟨(some 110), none, .move (.t 4)⟩,
               ⟨(some 111), none, .move (.t 110)⟩,
               ⟨(some 112), (some (111, true)), .fieldAddr 8 (.t 1)⟩,
               ⟨(some 113), (some (111, true)), .load1 (.t 112)⟩,
               ⟨(some 114), (some (111, true)), .bin .geq true 2 (.t 113) (.c (.i 1))⟩,
               ⟨(some 115), none, .pick (.t 111) (.t 114) (.c (.bool false))⟩,
               ⟨(some 116), none, .move (.t 115)⟩,
               ⟨(some 117), (some (116, true)), .fieldAddr 8 (.t 1)⟩,
               ⟨(some 118), (some (116, true)), .load1 (.t 117)⟩,
               ⟨(some 119), (some (116, true)), .bin .leq true 2 (.t 118) (.c (.i 63))⟩,
               ⟨(some 120), none, .pick (.t 116) (.t 119) (.c (.bool false))⟩,
               ⟨(some 4), none, .move (.t 120)⟩])
             (.seq (.ops [
                ⟨(some 122), none, .move (.t 3)⟩,
                ⟨(some 123), none, .callV (.c (.fn (.func 32) [] [])) [(.t 122), (.c (.b 73))]⟩,
                ⟨(some 124), none, .un .not (.t 123)⟩,
                ⟨(some 121), none, .move (.t 124)⟩])
              (.cond (.t 121)
               (.ops [
                 ⟨(some 125), none, .move (.t 4)⟩,
                 ⟨(some 126), none, .move (.t 125)⟩,
                 ⟨(some 127), (some (126, true)), .fieldAddr 8 (.t 1)⟩,
                 ⟨(some 128), (some (126, true)), .load1 (.t 127)⟩,
                 ⟨(some 129), (some (126, true)), .bin .eql true 2 (.t 128) (.c (.i 0))⟩,
                 ⟨(some 130), none, .pick (.t 126) (.t 129) (.c (.bool false))⟩,
                 ⟨(some 4), none, .move (.t 130)⟩])
               .skip)))))))
        (.seq (.seq (.ops [
            ⟨(some 131), none, .move (.t 4)⟩,
            ⟨(some 132), none, .un .not (.t 131)⟩])
          (.cond (.t 132)
           (.seq (.ops [
              ⟨(some 2), none, .move (.c (.i 2))⟩])
            .ret)
           .skip))
         (.seq (.ops [
            ⟨(some 2), none, .move (.c (.i 0))⟩])
          .ret))))))))))
theorem r_ref05_Check : resFn Try.prog 20 = some ⟨133, c_ref05_Check.r, [.tmp 2]⟩ := by kernel_rfl
theorem k_ref05_Check : c_ref05_Check.ok = true := by kernel_rfl



theorem Has_ok (f : List UInt8) (c : UInt8) (hl : f.length ≤ 1000) : FnS Try.prog 32 [.str f, .b c] (.bool (decide (c ∈ f))) [] := by
  refine FnS.val rfl (call_body r_ref05_Has k_ref05_Has (by simp) ?_)
  simp [c_ref05_Has]
  refine loop_nx (fun ρ D G N => ∃ i : Nat, D = [] ∧ N + i = f.length ∧ lk ρ 0 = .str f ∧ lk ρ 1 = .b c ∧ lk ρ 5 = .i i ∧ ∀ j b, j < i → f[j]? = some b → b ≠ c) (N := f.length) ⟨0, by simp⟩ ?_
  rintro N ρ D G ⟨i, rfl, hN, h0, h1, h5, hn⟩ Nx hNx
  by_cases hi : f.length ≤ i
  · have g : ¬ i < f.length := by omega
    have hm : c ∉ f := fun hc => by
      obtain ⟨j, hj, e⟩ := List.mem_iff_getElem.1 hc
      exact hn j _ (by omega) (List.getElem?_eq_getElem hj) e
    simp [h0, h5, g, hm]
  · have g : i < f.length := by omega
    have hg := List.getElem?_eq_getElem g
    by_cases hb : f[i] = c
    · have hm : c ∈ f := hb ▸ List.getElem_mem g
      simp [h0, h1, h5, g, hb, hm]
    · simp [h0, h1, h5, g, hb]
      refine ⟨by omega, hNx _ _ _ ⟨N - 1, by omega, i + 1, rfl, by omega, by simp [h0], by simp [h1], by simp, fun j b hj hjb => ?_⟩⟩
      by_cases e : j = i
      · subst e; rw [hg] at hjb; cases hjb; exact hb
      · exact hn j b (by omega) hjb
theorem fs_len (op : Int) : (fsOf op).length ≤ 1000 := by
  unfold fsOf
  generalize ix op 34 = n
  by_cases h : n < FS.length
  · have key : FS.all (fun e => decide (e.length ≤ 1000)) = true := by decide +kernel
    have := List.all_eq_true.1 key _ (List.getElem_mem h)
    rw [List.getD_eq_getElem?_getD, List.getElem?_eq_getElem h]
    simpa using this
  · rw [List.getD_eq_getElem?_getD, List.getElem?_eq_none (by omega)]
    simp
theorem let_ok (op : Int) (c : UInt8) : FnS Try.prog 32 [.str (fsOf op), .b c] (.bool (letB op c)) [] := Has_ok _ c (fs_len op)
theorem ref05_small_ok (n : Int) : FnS Try.prog 35 [.i n] (.bool (smallB n)) [] := by
  refine FnS.val rfl (call_body r_ref05_small k_ref05_small (by simp) ?_)
  by_cases h0 : -2147483648 ≤ n <;> by_cases h1 : n < 2147483648 <;> simp [c_ref05_small, smallB, h0, h1]
theorem ref05_place_ok (b x s d : Int) : FnS Try.prog 34 [.agg [.i b, .i x, .i s, .i d]] (.bool (placeB b x s d)) [] := by
  refine FnS.val rfl (call_body r_ref05_place k_ref05_place (by simp) ?_)
  simp [c_ref05_place]
  refine CallL_F (ref05_register_ok b) (by simp) ?_
  rw [show decide (0 ≤ b ∧ b ≤ 15) = regB b from rfl]
  cases hb : regB b with
  | false => simp [placeB, hb]
  | true =>
  simp
  refine CallL_F (ref05_small_ok d) (by simp) ?_
  cases hd : smallB d with
  | false => simp [placeB, hb, hd]
  | true =>
  by_cases hx : x = -1
  · simp [hx, placeB, hb, hd]
  simp [hx]
  refine CallL_F (ref05_register_ok x) (by simp) ?_
  rw [show decide (0 ≤ x ∧ x ≤ 15) = regB x from rfl]
  cases hrx : regB x with
  | false => simp [placeB, hb, hd, hx, hrx]
  | true =>
  by_cases h4 : x = 4
  · simp [placeB, hb, hd, hx, hrx, h4]
  by_cases s1 : s = 1
  · simp [placeB, hb, hd, hx, hrx, h4, s1]
  by_cases s2 : s = 2
  · simp [placeB, hb, hd, hx, hrx, h4, s1, s2]
  by_cases s4 : s = 4
  · simp [placeB, hb, hd, hx, hrx, h4, s1, s2, s4]
  simp [placeB, hb, hd, hx, hrx, h4, s1, s2, s4]
end Go.Proofs.Ytbcfbojigokplaa
