/- Numbers modulo another one: inverses. -/
import Derived.Test.YtlfffpmdofacjaaFnO
namespace Go.Proofs.Ytlfffpmdofacjaa
open Go.Sv
set_option linter.unusedSimpArgs false

def c_modular_euclid_step : LC :=
 (.seq (.ops [
   ⟨(some 2), none, .move (.c (.bool false))⟩])
 (.seq (.seq (.ops [
     ⟨(some 10), none, .move (.t 0)⟩,
     ⟨(some 11), none, .nilChk (.t 10)⟩,
     ⟨(some 12), none, .fieldAddr 3 (.t 11)⟩,
     ⟨(some 13), none, .fieldAddr 0 (.t 12)⟩,
     ⟨(some 14), none, .load1 (.t 13)⟩,
     ⟨(some 15), none, .lenSl (.t 14)⟩,
     ⟨(some 16), none, .bin .eql true 3 (.t 15) (.c (.i 0))⟩])
   (.cond (.t 16)
    (.seq (.ops [
       ⟨(some 2), none, .move (.c (.bool false))⟩])
     .ret)
    .skip))
  (.seq (.draw [
     (⟨(some 18), none, .move (.t 0)⟩, []),
     (⟨(some 19), none, .nilChk (.t 18)⟩, []),
     (⟨(some 20), none, .fieldAddr 1 (.t 19)⟩, []),
     (⟨(some 21), none, .fieldAddr 0 (.t 20)⟩, []),
     (⟨(some 22), none, .load1 (.t 21)⟩, []),
     (⟨(some 23), none, .move (.t 0)⟩, []),
     (⟨(some 24), none, .nilChk (.t 23)⟩, []),
     (⟨(some 25), none, .fieldAddr 3 (.t 24)⟩, []),
     (⟨(some 26), none, .fieldAddr 0 (.t 25)⟩, []),
     (⟨(some 27), none, .load1 (.t 26)⟩, []),
     (⟨(some 28), none, .callV (.c (.fn (.func 66) [] [])) [(.t 22), (.t 27)]⟩, []),
     (⟨(some 17), none, .move (.t 28)⟩, []),
     (⟨(some 29), none, .extract 0 (.t 17)⟩, []),
     (⟨(some 30), none, .extract 1 (.t 17)⟩, []),
     (⟨(some 31), none, .extract 2 (.t 17)⟩, []),
     (⟨(some 3), none, .move (.t 29)⟩, []),
     (⟨(some 4), none, .move (.t 30)⟩, []),
     (⟨(some 5), none, .move (.t 31)⟩, [])])
   (.seq (.draw [
      (⟨(some 33), none, .move (.t 3)⟩, []),
      (⟨(some 34), none, .move (.t 0)⟩, []),
      (⟨(some 35), none, .nilChk (.t 34)⟩, []),
      (⟨(some 36), none, .fieldAddr 3 (.t 35)⟩, []),
      (⟨(some 37), none, .fieldAddr 1 (.t 36)⟩, []),
      (⟨(some 38), none, .load1 (.t 37)⟩, []),
      (⟨(some 39), none, .move (.t 0)⟩, []),
      (⟨(some 40), none, .nilChk (.t 39)⟩, []),
      (⟨(some 41), none, .fieldAddr 0 (.t 40)⟩, []),
      (⟨(some 42), none, .load1 (.t 41)⟩, []),
      (⟨(some 43), none, .callV (.c (.fn (.func 26) [] [])) [(.t 33), (.t 38), (.t 42)]⟩, []),
      (⟨(some 32), none, .move (.t 43)⟩, []),
      (⟨(some 44), none, .extract 0 (.t 32)⟩, []),
      (⟨(some 45), none, .extract 1 (.t 32)⟩, []),
      (⟨(some 6), none, .move (.t 44)⟩, []),
      (⟨(some 7), none, .move (.t 45)⟩, [])])
    (.seq (.draw [
       (⟨(some 47), none, .move (.t 0)⟩, []),
       (⟨(some 48), none, .nilChk (.t 47)⟩, []),
       (⟨(some 49), none, .fieldAddr 1 (.t 48)⟩, []),
       (⟨(some 50), none, .fieldAddr 1 (.t 49)⟩, []),
       (⟨(some 51), none, .load1 (.t 50)⟩, []),
       (⟨(some 52), none, .move (.t 6)⟩, []),
       (⟨(some 53), none, .move (.t 0)⟩, []),
       (⟨(some 54), none, .nilChk (.t 53)⟩, []),
       (⟨(some 55), none, .fieldAddr 0 (.t 54)⟩, []),
       (⟨(some 56), none, .load1 (.t 55)⟩, []),
       (⟨(some 57), none, .callV (.c (.fn (.func 31) [] [])) [(.t 51), (.t 52), (.t 56)]⟩, []),
       (⟨(some 46), none, .move (.t 57)⟩, []),
       (⟨(some 58), none, .extract 0 (.t 46)⟩, []),
       (⟨(some 59), none, .extract 1 (.t 46)⟩, []),
       (⟨(some 8), none, .move (.t 58)⟩, []),
       (⟨(some 9), none, .move (.t 59)⟩, [])])
     (.seq (.ops [
        ⟨(some 60), none, .move (.t 0)⟩,
        ⟨(some 61), none, .move (.t 0)⟩,
        ⟨(some 62), none, .move (.t 0)⟩,
        ⟨(some 63), none, .nilChk (.t 62)⟩,
        ⟨(some 64), none, .fieldAddr 3 (.t 63)⟩,
        ⟨(some 65), none, .loadN 2 (.t 64)⟩,
        ⟨(some 66), none, .move (.t 4)⟩,
        ⟨(some 67), none, .move (.t 8)⟩,
        ⟨(some 68), none, .build [.nilSl, .nilSl] [(0, 1, (.t 66)), (1, 1, (.t 67))]⟩,
        ⟨(some 69), none, .nilChk (.t 60)⟩,
        ⟨(some 70), none, .fieldAddr 1 (.t 69)⟩,
        ⟨none, none, .store 2 (.t 70) (.t 65)⟩,
        ⟨(some 71), none, .nilChk (.t 61)⟩,
        ⟨(some 72), none, .fieldAddr 3 (.t 71)⟩,
        ⟨none, none, .store 2 (.t 72) (.t 68)⟩])
      (.seq (.ops [
         ⟨(some 2), none, .move (.c (.bool true))⟩])
       .ret)))))))
theorem r_modular_euclid_step : resFn Try.prog 67 = some ⟨73, c_modular_euclid_step.r, [.tmp 2]⟩ := by kernel_rfl
theorem k_modular_euclid_step : c_modular_euclid_step.ok = true := by kernel_rfl

def c_modular_Inverse : LC :=
 (.seq (.ops [
   ⟨(some 4), none, .move (.c .nilSl)⟩,
   ⟨(some 5), none, .move (.c (.i 0))⟩])
 (.seq (.ops [
    ⟨(some 10), none, .move (.t 0)⟩,
    ⟨(some 11), none, .move (.t 1)⟩,
    ⟨(some 12), none, .callV (.c (.fn (.func 55) [] [])) [(.t 10), (.t 11)]⟩,
    ⟨(some 9), none, .move (.t 12)⟩,
    ⟨(some 13), none, .extract 0 (.t 9)⟩,
    ⟨(some 14), none, .extract 1 (.t 9)⟩,
    ⟨(some 6), none, .move (.t 13)⟩,
    ⟨(some 7), none, .move (.t 14)⟩])
  (.seq (.seq (.ops [
      ⟨(some 15), none, .move (.t 7)⟩,
      ⟨(some 16), none, .bin .neq true 25 (.t 15) (.c (.i 0))⟩])
    (.cond (.t 16)
     (.seq (.ops [
        ⟨(some 17), none, .move (.t 7)⟩,
        ⟨(some 4), none, .move (.c .nilSl)⟩,
        ⟨(some 5), none, .move (.t 17)⟩])
      .ret)
     .skip))
   (.seq (.ops [
      ⟨(some 18), none, .move (.t 1)⟩,
      ⟨(some 19), none, .callV (.c (.fn (.func 52) [] [])) [(.t 18)]⟩,
      ⟨(some 20), none, .move (.t 1)⟩,
      ⟨(some 21), none, .callV (.c (.fn (.func 52) [] [])) [(.t 20)]⟩,
      ⟨(some 22), none, .build [.nilSl, .nilSl] [(0, 1, (.t 21))]⟩,
      ⟨(some 23), none, .move (.t 6)⟩,
      ⟨(some 24), none, .buildSl 1 1 [(.u 0)] [(0, 1, (.c (.u 1)))]⟩,
      ⟨(some 25), none, .build [.nilSl, .nilSl] [(0, 1, (.t 23)), (1, 1, (.t 24))]⟩,
      ⟨(some 26), none, .build [.nilSl, .nilSl, .nilSl, .nilSl, .nilSl] [(0, 1, (.t 19)), (1, 2, (.t 22)), (3, 2, (.t 25))]⟩,
      ⟨(some 27), none, .box (.t 26)⟩,
      ⟨(some 8), none, .move (.t 27)⟩])
    (.seq (.block 0 (.loop (.seq (.seq (.ops [
           ⟨(some 28), none, .move (.t 8)⟩,
           ⟨(some 29), none, .callV (.c (.fn (.func 67) [] [])) [(.t 28)]⟩])
         (.cond (.t 29)
          .skip
          (.exit 0)))
        (.block 1 .skip))))
     (.seq (.seq (.ops [
         ⟨(some 30), none, .move (.t 8)⟩,
         ⟨(some 31), none, .nilChk (.t 30)⟩,
         ⟨(some 32), none, .fieldAddr 1 (.t 31)⟩,
         ⟨(some 33), none, .fieldAddr 0 (.t 32)⟩,
         ⟨(some 34), none, .load1 (.t 33)⟩,
         ⟨(some 35), none, .buildSl 1 1 [(.u 0)] [(0, 1, (.c (.u 1)))]⟩,
         ⟨(some 36), none, .callV (.c (.fn (.func 68) [] [])) [(.t 34), (.t 35)]⟩,
         ⟨(some 37), none, .bin .neq true 3 (.t 36) (.c (.i 0))⟩])
       (.cond (.t 37)
        (.seq (.ops [
           ⟨(some 4), none, .move (.c .nilSl)⟩,
           ⟨(some 5), none, .move (.c (.i 5))⟩])
         .ret)
        .skip))
      (.seq (.ops [
         ⟨(some 38), none, .move (.t 8)⟩,
         ⟨(some 39), none, .nilChk (.t 38)⟩,
         ⟨(some 40), none, .fieldAddr 1 (.t 39)⟩,
         ⟨(some 41), none, .fieldAddr 1 (.t 40)⟩,
         ⟨(some 42), none, .load1 (.t 41)⟩,
         ⟨(some 43), none, .move (.t 1)⟩,
         ⟨(some 44), none, .callV (.c (.fn (.func 55) [] [])) [(.t 42), (.t 43)]⟩,
         ⟨(some 45), none, .extract 0 (.t 44)⟩,
         ⟨(some 46), none, .extract 1 (.t 44)⟩,
         ⟨(some 4), none, .move (.t 45)⟩,
         ⟨(some 5), none, .move (.t 46)⟩])
       .ret)))))))
theorem r_modular_Inverse : resFn Try.prog 35 = some ⟨47, c_modular_Inverse.r, [.tmp 4, .tmp 5]⟩ := by kernel_rfl
theorem k_modular_Inverse : c_modular_Inverse.ok = true := by kernel_rfl

def c_modular_Reduce : LC :=
 (.seq (.ops [
   ⟨(some 6), none, .move (.c .nilSl)⟩,
   ⟨(some 7), none, .move (.c (.i 0))⟩])
 (.seq (.seq (.ops [
     ⟨(some 11), none, .move (.t 1)⟩,
     ⟨(some 12), none, .callV (.c (.fn (.func 69) [] [])) [(.t 11)]⟩,
     ⟨(some 13), none, .un .not (.t 12)⟩])
   (.cond (.t 13)
    (.seq (.ops [
       ⟨(some 6), none, .move (.c .nilSl)⟩,
       ⟨(some 7), none, .move (.c (.i 2))⟩])
     .ret)
    .skip))
  (.seq (.ops [
     ⟨(some 15), none, .move (.t 2)⟩,
     ⟨(some 16), none, .move (.t 1)⟩,
     ⟨(some 17), none, .callV (.c (.fn (.func 36) [] [])) [(.t 15), (.t 16)]⟩,
     ⟨(some 14), none, .move (.t 17)⟩,
     ⟨(some 18), none, .extract 0 (.t 14)⟩,
     ⟨(some 19), none, .extract 1 (.t 14)⟩,
     ⟨(some 8), none, .move (.t 18)⟩,
     ⟨(some 9), none, .move (.t 19)⟩])
   (.seq (.seq (.ops [
       ⟨(some 20), none, .move (.t 9)⟩,
       ⟨(some 21), none, .bin .neq true 25 (.t 20) (.c (.i 0))⟩])
     (.cond (.t 21)
      (.seq (.ops [
         ⟨(some 22), none, .move (.t 9)⟩,
         ⟨(some 6), none, .move (.c .nilSl)⟩,
         ⟨(some 7), none, .move (.t 22)⟩])
       .ret)
      .skip))
    (.seq (.ops [
       ⟨(some 24), none, .move (.t 8)⟩,
       ⟨(some 25), none, .move (.t 1)⟩,
       ⟨(some 26), none, .callV (.c (.fn (.func 35) [] [])) [(.t 24), (.t 25)]⟩,
       ⟨(some 23), none, .move (.t 26)⟩,
       ⟨(some 27), none, .extract 0 (.t 23)⟩,
       ⟨(some 28), none, .extract 1 (.t 23)⟩,
       ⟨(some 10), none, .move (.t 27)⟩,
       ⟨(some 9), none, .move (.t 28)⟩])
     (.seq (.seq (.ops [
         ⟨(some 29), none, .move (.t 9)⟩,
         ⟨(some 30), none, .bin .neq true 25 (.t 29) (.c (.i 0))⟩])
       (.cond (.t 30)
        (.seq (.ops [
           ⟨(some 31), none, .move (.t 9)⟩,
           ⟨(some 6), none, .move (.c .nilSl)⟩,
           ⟨(some 7), none, .move (.t 31)⟩])
         .ret)
        .skip))
      (.seq (.ops [
         ⟨(some 32), none, .move (.t 0)⟩,
         ⟨(some 33), none, .move (.t 10)⟩,
         ⟨(some 34), none, .move (.t 1)⟩,
         ⟨(some 35), none, .callV (.c (.fn (.func 26) [] [])) [(.t 32), (.t 33), (.t 34)]⟩,
         ⟨(some 36), none, .extract 0 (.t 35)⟩,
         ⟨(some 37), none, .extract 1 (.t 35)⟩,
         ⟨(some 6), none, .move (.t 36)⟩,
         ⟨(some 7), none, .move (.t 37)⟩])
       .ret)))))))
theorem r_modular_Reduce : resFn Try.prog 37 = some ⟨38, c_modular_Reduce.r, [.tmp 6, .tmp 7]⟩ := by kernel_rfl
theorem k_modular_Reduce : c_modular_Reduce.ok = true := by kernel_rfl

def c_ref03_Inverse : LC :=
 (.seq (.ops [
   ⟨(some 4), none, .move (.c .nilSl)⟩,
   ⟨(some 5), none, .move (.c (.i 0))⟩])
 (.seq (.ops [
    ⟨(some 20), none, .move (.t 0)⟩,
    ⟨(some 21), none, .move (.t 1)⟩,
    ⟨(some 22), none, .callV (.c (.fn (.func 71) [] [])) [(.t 20), (.t 21)]⟩,
    ⟨(some 19), none, .move (.t 22)⟩,
    ⟨(some 23), none, .extract 0 (.t 19)⟩,
    ⟨(some 24), none, .extract 1 (.t 19)⟩,
    ⟨(some 6), none, .move (.t 23)⟩,
    ⟨(some 7), none, .move (.t 24)⟩])
  (.seq (.seq (.ops [
      ⟨(some 25), none, .move (.t 7)⟩,
      ⟨(some 26), none, .bin .neq true 25 (.t 25) (.c (.i 0))⟩])
    (.cond (.t 26)
     (.seq (.ops [
        ⟨(some 27), none, .move (.t 7)⟩,
        ⟨(some 4), none, .move (.c .nilSl)⟩,
        ⟨(some 5), none, .move (.t 27)⟩])
      .ret)
     .skip))
   (.seq (.seq (.ops [
       ⟨(some 28), none, .move (.t 6)⟩,
       ⟨(some 29), none, .move (.t 1)⟩,
       ⟨(some 30), none, .callV (.c (.fn (.func 47) [] [])) [(.t 28), (.t 29)]⟩,
       ⟨(some 31), none, .buildSl 1 1 [(.u 0)] [(0, 1, (.c (.u 1)))]⟩,
       ⟨(some 32), none, .callV (.c (.fn (.func 72) [] [])) [(.t 30), (.t 31)]⟩,
       ⟨(some 33), none, .un .not (.t 32)⟩])
     (.cond (.t 33)
      (.seq (.ops [
         ⟨(some 4), none, .move (.c .nilSl)⟩,
         ⟨(some 5), none, .move (.c (.i 5))⟩])
       .ret)
      .skip))
    (.seq (.ops [
       ⟨(some 34), none, .move (.t 1)⟩,
       ⟨(some 35), none, .callV (.c (.fn (.func 18) [] [])) [(.t 34)]⟩,
       ⟨(some 36), none, .move (.t 6)⟩,
       ⟨(some 8), none, .move (.t 35)⟩,
       ⟨(some 9), none, .move (.t 36)⟩])
     (.seq (.ops [
        ⟨(some 37), none, .buildSl 1 0 [] []⟩,
        ⟨(some 38), none, .buildSl 1 1 [(.u 0)] [(0, 1, (.c (.u 1)))]⟩,
        ⟨(some 10), none, .move (.t 37)⟩,
        ⟨(some 11), none, .move (.t 38)⟩])
      (.seq (.block 0 (.loop (.seq (.seq (.ops [
             ⟨(some 39), none, .move (.t 9)⟩,
             ⟨(some 40), none, .lenSl (.t 39)⟩,
             ⟨(some 41), none, .bin .gtr true 3 (.t 40) (.c (.i 0))⟩])
           (.cond (.t 41)
            .skip
            (.exit 0)))
          (.block 1 (.seq (.ops [
              ⟨(some 43), none, .move (.t 8)⟩,
              ⟨(some 44), none, .move (.t 9)⟩,
              ⟨(some 45), none, .callV (.c (.fn (.func 29) [] [])) [(.t 43), (.t 44)]⟩,
              ⟨(some 42), none, .move (.t 45)⟩,
              ⟨(some 46), none, .extract 0 (.t 42)⟩,
              ⟨(some 47), none, .extract 1 (.t 42)⟩,
              ⟨(some 48), none, .extract 2 (.t 42)⟩,
              ⟨(some 12), none, .move (.t 46)⟩,
              ⟨(some 13), none, .move (.t 47)⟩,
              ⟨(some 14), none, .move (.t 48)⟩])
            (.seq (.ops [
               ⟨(some 50), none, .move (.t 12)⟩,
               ⟨(some 51), none, .move (.t 11)⟩,
               ⟨(some 52), none, .move (.t 1)⟩,
               ⟨(some 53), none, .callV (.c (.fn (.func 41) [] [])) [(.t 50), (.t 51), (.t 52)]⟩,
               ⟨(some 49), none, .move (.t 53)⟩,
               ⟨(some 54), none, .extract 0 (.t 49)⟩,
               ⟨(some 55), none, .extract 1 (.t 49)⟩,
               ⟨(some 15), none, .move (.t 54)⟩,
               ⟨(some 16), none, .move (.t 55)⟩])
             (.seq (.ops [
                ⟨(some 57), none, .move (.t 10)⟩,
                ⟨(some 58), none, .move (.t 15)⟩,
                ⟨(some 59), none, .move (.t 1)⟩,
                ⟨(some 60), none, .callV (.c (.fn (.func 40) [] [])) [(.t 57), (.t 58), (.t 59)]⟩,
                ⟨(some 56), none, .move (.t 60)⟩,
                ⟨(some 61), none, .extract 0 (.t 56)⟩,
                ⟨(some 62), none, .extract 1 (.t 56)⟩,
                ⟨(some 17), none, .move (.t 61)⟩,
                ⟨(some 18), none, .move (.t 62)⟩])
              (.seq (.ops [
                 ⟨(some 63), none, .move (.t 9)⟩,
                 ⟨(some 64), none, .move (.t 13)⟩,
                 ⟨(some 8), none, .move (.t 63)⟩,
                 ⟨(some 9), none, .move (.t 64)⟩])
               (.ops [
                 ⟨(some 65), none, .move (.t 11)⟩,
                 ⟨(some 66), none, .move (.t 17)⟩,
                 ⟨(some 10), none, .move (.t 65)⟩,
                 ⟨(some 11), none, .move (.t 66)⟩])))))))))
       (.seq (.ops [
          ⟨(some 67), none, .move (.t 10)⟩,
          ⟨(some 68), none, .move (.t 1)⟩,
          ⟨(some 69), none, .callV (.c (.fn (.func 71) [] [])) [(.t 67), (.t 68)]⟩,
          ⟨(some 70), none, .extract 0 (.t 69)⟩,
          ⟨(some 71), none, .extract 1 (.t 69)⟩,
          ⟨(some 4), none, .move (.t 70)⟩,
          ⟨(some 5), none, .move (.t 71)⟩])
        .ret))))))))
theorem r_ref03_Inverse : resFn Try.prog 43 = some ⟨72, c_ref03_Inverse.r, [.tmp 4, .tmp 5]⟩ := by kernel_rfl
theorem k_ref03_Inverse : c_ref03_Inverse.ok = true := by kernel_rfl

def c_ref03_Reduce : LC :=
 (.seq (.ops [
   ⟨(some 6), none, .move (.c .nilSl)⟩,
   ⟨(some 7), none, .move (.c (.i 0))⟩])
 (.seq (.ops [
    ⟨(some 13), none, .move (.t 2)⟩,
    ⟨(some 14), none, .move (.t 1)⟩,
    ⟨(some 15), none, .callV (.c (.fn (.func 44) [] [])) [(.t 13), (.t 14)]⟩,
    ⟨(some 12), none, .move (.t 15)⟩,
    ⟨(some 16), none, .extract 0 (.t 12)⟩,
    ⟨(some 17), none, .extract 1 (.t 12)⟩,
    ⟨(some 8), none, .move (.t 16)⟩,
    ⟨(some 9), none, .move (.t 17)⟩])
  (.seq (.seq (.ops [
      ⟨(some 18), none, .move (.t 9)⟩,
      ⟨(some 19), none, .bin .neq true 25 (.t 18) (.c (.i 0))⟩,
      ⟨(some 20), none, .move (.t 19)⟩,
      ⟨(some 21), (some (20, false)), .move (.t 1)⟩,
      ⟨(some 22), (some (20, false)), .callV (.c (.fn (.func 74) [] [])) [(.t 21)]⟩,
      ⟨(some 23), (some (20, false)), .un .not (.t 22)⟩,
      ⟨(some 24), none, .pick (.t 20) (.c (.bool true)) (.t 23)⟩])
    (.cond (.t 24)
     (.seq (.ops [
        ⟨(some 6), none, .move (.c .nilSl)⟩,
        ⟨(some 7), none, .move (.c (.i 2))⟩])
      .ret)
     .skip))
   (.seq (.ops [
      ⟨(some 26), none, .move (.t 8)⟩,
      ⟨(some 27), none, .move (.t 1)⟩,
      ⟨(some 28), none, .callV (.c (.fn (.func 43) [] [])) [(.t 26), (.t 27)]⟩,
      ⟨(some 25), none, .move (.t 28)⟩,
      ⟨(some 29), none, .extract 0 (.t 25)⟩,
      ⟨(some 30), none, .extract 1 (.t 25)⟩,
      ⟨(some 10), none, .move (.t 29)⟩,
      ⟨(some 11), none, .move (.t 30)⟩])
    (.seq (.ops [
       ⟨(some 31), none, .move (.t 0)⟩,
       ⟨(some 32), none, .move (.t 10)⟩,
       ⟨(some 33), none, .move (.t 1)⟩,
       ⟨(some 34), none, .callV (.c (.fn (.func 41) [] [])) [(.t 31), (.t 32), (.t 33)]⟩,
       ⟨(some 35), none, .extract 0 (.t 34)⟩,
       ⟨(some 36), none, .extract 1 (.t 34)⟩,
       ⟨(some 6), none, .move (.t 35)⟩,
       ⟨(some 7), none, .move (.t 36)⟩])
     .ret)))))
theorem r_ref03_Reduce : resFn Try.prog 46 = some ⟨37, c_ref03_Reduce.r, [.tmp 6, .tmp 7]⟩ := by kernel_rfl
theorem k_ref03_Reduce : c_ref03_Reduce.ok = true := by kernel_rfl



/-- A row by what stands in it. -/
def RV (G : LHeap) (v : LV) (l : List UInt64) : Prop := v = LU l ∨ (v = .nilSl ∧ l = []) ∨ ∃ q st, v = .dy q 0 ∧ G[q]? = some (.dyn (l.map .u) l.length 1 0 st)
theorem RV.bor {G : LHeap} {v : LV} {l : List UInt64} (h : RV G v l) : bor G v (LU l) := by
  rcases h with rfl | ⟨rfl, rfl⟩ | ⟨q, st, rfl, hg⟩
  · exact ⟨rfl, by simp⟩
  · exact .inr ⟨1, by simp⟩
  · exact ⟨_, _, _, st, rfl, hg, by simp⟩
theorem RV.set {G : LHeap} {v : LV} {l : List UInt64} (h : RV G v l) {p st : Nat} {cs : List LV} (hp : G[p]? = some (.cells cs st)) (x : LObj) : RV (G.set p x) v l := by
  rcases h with h | h | ⟨q, st', h1, hg⟩
  · exact .inl h
  · exact .inr (.inl h)
  · refine .inr (.inr ⟨q, st', h1, ?_⟩)
    rw [gset_ne (fun e => by subst e; rw [hp] at hg; cases hg)]
    exact hg
theorem RV.app {G : LHeap} {v : LV} {l : List UInt64} (h : RV G v l) (x : LHeap) : RV (G ++ x) v l := by
  rcases h with h | h | ⟨q, st', h1, hg⟩
  · exact .inl h
  · exact .inr (.inl h)
  · exact .inr (.inr ⟨q, st', h1, gapp hg x⟩)
theorem bors3 {G : LHeap} {v d v' d' v'' d'' : LV} (h : Go.Sv.bor G v d) (h' : Go.Sv.bor G v' d') (h'' : Go.Sv.bor G v'' d'') : bors G [v, v', v''] [d, d', d''] := ⟨d, _, rfl, h, bors2 h' h''⟩

theorem euclid_end {G : LHeap} {p st : Nat} {vn va vs vt : LV} {K : LV → LHeap → Prop} (hg : G[p]? = some (.cells [vn, va, vs, LU [], vt] st)) (k : K (.bool false) G) : CallL Try.prog (.fn 67) [.ptr p 0] G K := by
  refine call_body r_modular_euclid_step k_modular_euclid_step (by simp) ?_
  simp only [LU] at hg
  simp [c_modular_euclid_step, hg]
  exact k
theorem euclid_step {G : LHeap} {p st u v : Nat} {n S T : List UInt64} {vs vt : LV} {K : LV → LHeap → Prop} (hg : G[p]? = some (.cells [LU n, LU (toL u), vs, LU (toL v), vt] st)) (hs : RV G vs S) (ht : RV G vt T) (hv : v ≠ 0) (hn : val n ≠ 0)
    (l1 : n.length ≤ 4000) (l2 : (toL u).length ≤ 4000) (l3 : (toL v).length ≤ 4000) (l4 : S.length ≤ 4000) (l5 : T.length ≤ 4000)
    (k : K (.bool true) (G.set p (.cells [LU n, LU (toL v), vt, LU (toL (u % v)), LU (toL (subM (val S) (u / v * val T % val n) (val n)))] (st + 2)))) : CallL Try.prog (.fn 67) [.ptr p 0] G K := by
  refine call_body r_modular_euclid_step k_modular_euclid_step (by simp) ?_
  simp only [LU] at hg
  have hp : toL v ≠ [] := fun e => hv (toL_eq_nil.1 e)
  have hp1 : ¬ ((toL v).length : Int) = 0 := by have := List.length_pos_iff.2 hp; omega
  have hlt := (List.getElem?_eq_some_iff.1 hg).1
  simp [c_modular_euclid_step, hg, hp, hp1]
  refine CallL_F (nat_Div_ok (toL u) (toL v) (by omega) (by omega)) (by simp) ?_
  have q1 : (toL (u / v)).length ≤ (toL u).length := toL_len_le (by rw [val_toL]; exact Nat.div_le_self _ _)
  simp [RU, val_toL, hv, hg]
  refine CallL_F (modular_Mul_ok (toL (u / v)) T n (by omega) (by omega) (by omega)) (bors3 (by simp) ht.bor (by simp)) ?_
  have q2 := toL_len_lt (b := n) (Nat.mod_lt (u / v * val T) (show 0 < val n by omega))
  simp [RU, val_toL, mE_p hn, mR_p hn, hg]
  refine CallL_F (modular_Sub_ok S (toL (u / v * val T % val n)) n (by omega) (by omega) (by omega)) (bors3 hs.bor (by simp) (by simp)) ?_
  have ht1 : vt.cells = some [vt] := by
    rcases ht with rfl | ⟨rfl, _⟩ | ⟨q, st, rfl, _⟩ <;> rfl
  have hge := (List.getElem?_eq_some_iff.1 hg).2
  simp [RU, val_toL, mE_p hn, mR_p hn, hg, hlt, hge]
  exact k

theorem modular_Inverse_ok (a n : List UInt64) (ha : a.length ≤ 4000) (hn : n.length ≤ 4000) : FnV Try.prog 35 [LU a, LU n] (.tup [LU (ivR (val a) (val n)), .i (ivE (val a) (val n))]) := by
  refine FnV.mk (by simp [LV.dat]) (call_body r_modular_Inverse k_modular_Inverse (by simp) ?_)
  simp [c_modular_Inverse]
  refine CallL_F (modular_rest_ok a n (by omega) (by omega)) (by simp) ?_
  by_cases h : val n = 0
  · simp [RU, h, mE, mR, ivE, ivR]
  have hx := mR_len a n h
  rw [← ivR_mod, ← ivE_mod]
  generalize val a % val n = x at *
  simp [RU, mE_p h, mR_p h]
  refine CallL_F (nat_Trim_ok n (by omega)) (by simp) ?_
  simp [RU]
  refine CallL_F (nat_Trim_ok n (by omega)) (by simp) ?_
  have hnl := toL_length_val n
  have vnn : val (toL (val n)) = val n := val_toL _
  have hm0 := fun y => toL_len_lt (b := n) (Nat.mod_lt y (show 0 < val n by omega))
  simp [RU]
  refine loop_nx (fun ρ D G N => ∃ (u : Nat) (S T : List UInt64) (vs vt : LV) (st : Nat), D = [] ∧ lk ρ 1 = LU n ∧ lk ρ 8 = .ptr 1 0 ∧ G[1]? = some (.cells [LU (toL (val n)), LU (toL u), vs, LU (toL N), vt] st) ∧ RV G vs S ∧ RV G vt T ∧ (toL u).length ≤ n.length ∧ (toL N).length ≤ n.length ∧ S.length ≤ 4000 ∧ T.length ≤ 4000 ∧ EU (val n) x u N (val S) (val T)) (N := x)
    ⟨val n, [], [1], .nilSl, .dy 0 0, 0, by simp, by simp, by simp, by simp, .inr (.inl ⟨rfl, rfl⟩), .inr (.inr ⟨0, 0, rfl, by simp⟩), hnl, hx, by simp, by simp, by simpa [val] using EU_start (val n) x⟩ ?_
  rintro N ρ D G ⟨u, S, T, vs, vt, st, rfl, e1, e8, g1, hs, ht, l1, l2, l3, l4, hE⟩ Nx hNx
  by_cases hz : N = 0
  · subst hz
    have hu := EU_end hE
    simp [e8]
    rw [toL_zero] at g1
    refine euclid_end g1 ?_
    simp only [LU] at g1
    simp [e8, g1]
    refine CallL_F (nat_Compare_ok (toL u) [1] (by omega) (by simp)) (bors2 (by simp) (RowAt.bor (l := [1]) (.inr ⟨_, 0, 0, rfl, by simp⟩))) ?_
    rw [val_toL, val_one]
    by_cases h1 : u = 1
    · have hg1 : Nat.gcd x (val n) = 1 := by rw [← hu]; exact h1
      subst h1
      have hi := EU_inv h hE
      have g2 := fun x => gapp g1 x
      have g3 : ∀ (x : LHeap) (h : 1 < (G ++ x).length), (G ++ x)[1]'h = _ := fun x h => (List.getElem?_eq_some_iff.1 (g2 x)).2
      simp [cmpN_self, e1, e8, g2, g3]
      refine CallL_F (modular_rest_ok S n (by omega) (by omega)) (bors2 (hs.app _).bor (by simp)) ?_
      simp [RU, mE_p h, mR_p h, ivE, ivR, h, hg1, hi]
    · have hg1 : ¬ Nat.gcd x (val n) = 1 := by rw [← hu]; exact h1
      have hc : ¬ cmpN u (1 : UInt64).toNat = 0 := by rw [cmpN_eq]; simpa using h1
      simp at hc
      simp [hc, ivE, ivR, h, hg1]
  · simp [e8]
    refine euclid_step g1 hs ht hz (by rw [vnn]; exact h) (by omega) (by omega) (by omega) l3 l4 ?_
    rw [vnn]
    simp
    exact hNx _ _ _ ⟨u % N, Nat.mod_lt _ (by omega), N, T, toL (subM (val S) (u / N * val T % val n) (val n)), vt, _, _, rfl, by simp [e1], by simp [e8], gset g1 _, ht.set g1 _, .inl rfl, l2, by have := toL_len_lt (b := toL N) (n := u % N) (by rw [val_toL]; exact Nat.mod_lt _ (by omega)); omega, l4, by have := toL_len_lt (b := n) (subM_lt (a := val S) (b := u / N * val T % val n) h); omega, by rw [val_toL]; exact EU_step h hE⟩

theorem ref03_Inverse_ok (a n : List UInt64) (ha : a.length ≤ 4000) (hn : n.length ≤ 4000) : FnV Try.prog 43 [LU a, LU n] (.tup [LU (ivR (val a) (val n)), .i (ivE (val a) (val n))]) := by
  refine FnV.mk (by simp [LV.dat]) (call_body r_ref03_Inverse k_ref03_Inverse (by simp) ?_)
  simp [c_ref03_Inverse]
  refine CallL_F (ref03_rest_ok a n (by omega) (by omega)) (by simp) ?_
  by_cases h : val n = 0
  · simp [RU, h, mE, mR, ivE, ivR]
  have hx := mR_len a n h
  rw [← ivR_mod, ← ivE_mod]
  generalize val a % val n = x at *
  simp [RU, mE_p h, mR_p h]
  refine CallL_V (ref03_Gcd_ok (toL x) n (by omega) (by omega)) (by simp) ?_
  have hgl : (toL (Nat.gcd x (val n))).length ≤ n.length := toL_len_le (Nat.gcd_le_right _ (by omega))
  rw [val_toL]
  simp
  refine CallL_F (ref02_Same_ok (toL (Nat.gcd x (val n))) [1] (by omega) (by simp)) (bors2 (by simp) (RowAt.bor (l := [1]) (.inr ⟨_, 0, 0, rfl, by simp⟩))) ?_
  rw [val_toL, val_one]
  have o1 : (1 : UInt64).toNat = 1 := rfl
  rw [o1]
  by_cases hg1 : Nat.gcd x (val n) = 1
  rotate_left
  · simp [hg1, ivE, ivR, h]
  rw [decide_eq_true hg1]
  simp
  refine CallL_F (ref02_Trim_ok n (by omega)) (by simp) ?_
  have hnl := toL_length_val n
  simp [RU]
  refine loop_nx (fun ρ D G N => ∃ (u : Nat) (S T : List UInt64) (vs vt : LV), D = [] ∧ lk ρ 1 = LU n ∧ lk ρ 8 = LU (toL u) ∧ lk ρ 9 = LU (toL N) ∧ lk ρ 10 = vs ∧ lk ρ 11 = vt ∧ RV G vs S ∧ RV G vt T ∧ (toL u).length ≤ n.length ∧ (toL N).length ≤ n.length ∧ S.length ≤ 4000 ∧ T.length ≤ 4000 ∧ EU (val n) x u N (val S) (val T)) (N := x)
    ⟨val n, [], [1], .dy 1 0, .dy 2 0, by simp, by simp, by simp, by simp, by simp, by simp, .inr (.inr ⟨1, 0, rfl, by simp⟩), .inr (.inr ⟨2, 0, rfl, by simp⟩), hnl, hx, by simp, by simp, by simpa [val] using EU_start (val n) x⟩ ?_
  rintro N ρ D G ⟨u, S, T, vs, vt, rfl, e1, e8, e9, e10, e11, hs, ht, l1, l2, l3, l4, hE⟩ Nx hNx
  by_cases hz : N = 0
  · subst hz
    have hu := EU_end hE
    rw [hg1] at hu
    subst hu
    have hi := EU_inv h hE
    rw [toL_zero] at e9
    simp [e9, e1, e10]
    refine CallL_F (ref03_rest_ok S n (by omega) (by omega)) (bors2 hs.bor (by simp)) ?_
    simp [RU, mE_p h, mR_p h, ivE, ivR, h, hg1, hi]
  · have hp : toL N ≠ [] := fun e => hz (toL_eq_nil.1 e)
    have hp2 : 0 < (toL N).length := List.length_pos_iff.2 hp
    have q1 : (toL (u / N)).length ≤ (toL u).length := toL_len_le (by rw [val_toL]; exact Nat.div_le_self _ _)
    have q2 := toL_len_lt (b := n) (Nat.mod_lt (u / N * val T) (show 0 < val n by omega))
    simp [e8, e9, hp, hp2]
    refine CallL_F (ref02_Div_ok (toL u) (toL N) (by omega) (by omega)) (by simp) ?_
    simp [RU, val_toL, hz, e11, e1]
    refine CallL_F (ref03_Mul_ok (toL (u / N)) T n (by omega) (by omega) (by omega)) (bors3 (by simp) ht.bor (by simp)) ?_
    simp [RU, val_toL, mE_p h, mR_p h, e10, e1]
    refine CallL_F (ref03_Sub_ok S (toL (u / N * val T % val n)) n (by omega) (by omega) (by omega)) (bors3 hs.bor (by simp) (by simp)) ?_
    simp [RU, val_toL, mE_p h, mR_p h, e9, e11]
    exact hNx _ _ _ ⟨u % N, Nat.mod_lt _ (by omega), N, T, toL (subM (val S) (u / N * val T % val n) (val n)), vt, _, rfl, by simp [e1], by simp, by simp, by simp, by simp, ht, .inl rfl, l2, by have := toL_len_lt (b := toL N) (n := u % N) (by rw [val_toL]; exact Nat.mod_lt _ (by omega)); omega, l4, by have := toL_len_lt (b := n) (subM_lt (a := val S) (b := u / N * val T % val n) h); omega, by rw [val_toL]; exact EU_step h hE⟩

theorem reduce_iv {n : List UInt64} (h : oddL n = true) (k : Nat) : ivE (2 ^ (64 * k) % val n) (val n) = 0 ∧ ivR (2 ^ (64 * k) % val n) (val n) = toL (invN (2 ^ (64 * k) % val n) (val n)) ∧ invN (2 ^ (64 * k) % val n) (val n) < val n := by
  have h1 := oddL_ne h
  have h2 := radix_coprime' (oddL_odd h) (64 * k)
  exact ⟨by simp [ivE, h1, h2], by simp [ivR, h1, h2], (invN_spec h1 h2).1⟩
theorem modular_Reduce_ok (t n : List UInt64) (l : Int) (ht : t.length ≤ 4000) (hn : n.length ≤ 4000) : FnS Try.prog 37 [LU t, LU n, .i l] (.tup [.dy 0 0, .i (reE n l)]) [RU (reR t n l)] := by
  refine FnS.rowE (call_body r_modular_Reduce k_modular_Reduce (by simp) ?_)
  simp [c_modular_Reduce]
  refine CallL_F (modular_odd_ok n) (by simp) ?_
  cases h : oddL n
  · simp [h, reE, reR, RowAt]
  have h1 := oddL_ne h
  simp [h]
  refine CallL_F (modular_Radix_ok l n (by omega)) (by simp) ?_
  by_cases hl : l < 0 ∨ 512 < l
  · have hl2 : ¬ (0 ≤ l ∧ l ≤ 512) := by omega
    simp [RU, rdE, rdR, hl, reE, reR, hl2, RowAt]
  have hl2 : 0 ≤ l ∧ l ≤ 512 := by omega
  obtain ⟨i1, i2, i3⟩ := reduce_iv h l.toNat
  have hm := toL_len_lt (b := n) (Nat.mod_lt (2 ^ (64 * l.toNat)) (show 0 < val n by omega))
  have hm2 := toL_len_lt (b := n) i3
  simp [RU, rdE, rdR, hl, mE_p h1, mR_p h1]
  refine CallL_V (modular_Inverse_ok (toL (2 ^ (64 * l.toNat) % val n)) n (by omega) (by omega)) (by simp) ?_
  rw [val_toL, i1, i2]
  simp
  refine CallL_S (modular_Mul_ok t (toL (invN (2 ^ (64 * l.toNat) % val n) (val n))) n (by omega) (by omega) (by omega)) (by simp) ?_
  simp [val_toL, mE_p h1, mR_p h1, reE, reR, h, hl2]
  exact .inr ⟨_, 0, 0, rfl, by simp [RU]⟩
theorem ref03_Reduce_ok (t n : List UInt64) (l : Int) (ht : t.length ≤ 4000) (hn : n.length ≤ 4000) : FnS Try.prog 46 [LU t, LU n, .i l] (.tup [.dy 0 0, .i (reE n l)]) [RU (reR t n l)] := by
  refine FnS.rowE (call_body r_ref03_Reduce k_ref03_Reduce (by simp) ?_)
  simp [c_ref03_Reduce]
  refine CallL_F (ref03_Radix_ok l n (by omega)) (by simp) ?_
  by_cases hl : l < 0 ∨ 512 < l
  · have hl2 : ¬ (0 ≤ l ∧ l ≤ 512) := by omega
    simp [RU, rdE, rdR, hl, reE, reR, hl2, RowAt]
  have hl2 : 0 ≤ l ∧ l ≤ 512 := by omega
  by_cases h1 : val n = 0
  · have h : oddL n = false := by rw [oddL_val, h1]; rfl
    simp [RU, rdE, rdR, hl, mE_0 h1, mR_0 h1, reE, reR, h, RowAt]
  simp [RU, rdE, rdR, hl, mE_p h1, mR_p h1]
  refine CallL_F (ref03_odd_ok n) (by simp) ?_
  cases h : oddL n
  · simp [h, reE, reR, RowAt]
  obtain ⟨i1, i2, i3⟩ := reduce_iv h l.toNat
  have hm := toL_len_lt (b := n) (Nat.mod_lt (2 ^ (64 * l.toNat)) (show 0 < val n by omega))
  have hm2 := toL_len_lt (b := n) i3
  simp [h]
  refine CallL_V (ref03_Inverse_ok (toL (2 ^ (64 * l.toNat) % val n)) n (by omega) (by omega)) (by simp) ?_
  rw [val_toL, i1, i2]
  simp
  refine CallL_S (ref03_Mul_ok t (toL (invN (2 ^ (64 * l.toNat) % val n) (val n))) n (by omega) (by omega) (by omega)) (by simp) ?_
  simp [val_toL, mE_p h1, mR_p h1, reE, reR, h, hl2]
  exact .inr ⟨_, 0, 0, rfl, by simp [RU]⟩
end Go.Proofs.Ytlfffpmdofacjaa
