/- Instructions: what operations have, as letters; the statement InstNamed: its walk. -/
import Derived.Test.YtbcfbojigokplaaFnT
namespace Go.Proofs.Ytbcfbojigokplaa
open Go.Sv
set_option linter.unusedSimpArgs false
set_option maxRecDepth 10000

def c_ref05_Form : LC :=
 (.seq (.ops [
   ⟨(some 2), none, .move (.c (.str []))⟩])
 (.seq (.block 0 (.seq (.ops [
      ⟨(some 4), none, .move (.t 0)⟩,
      ⟨(some 5), none, .bin .eql true 3 (.t 4) (.c (.i 1))⟩,
      ⟨(some 6), none, .move (.t 5)⟩,
      ⟨(some 7), (some (6, false)), .move (.t 0)⟩,
      ⟨(some 8), (some (6, false)), .bin .geq true 3 (.t 7) (.c (.i 6))⟩,
      ⟨(some 9), (some (6, false)), .move (.t 8)⟩,
      ⟨(some 10), (some (9, true)), .move (.t 0)⟩,
      ⟨(some 11), (some (9, true)), .bin .leq true 3 (.t 10) (.c (.i 14))⟩,
      ⟨(some 12), (some (6, false)), .pick (.t 9) (.t 11) (.c (.bool false))⟩,
      ⟨(some 13), none, .pick (.t 6) (.c (.bool true)) (.t 12)⟩,
      ⟨(some 14), none, .move (.t 13)⟩,
      ⟨(some 15), (some (14, false)), .move (.t 0)⟩,
      ⟨(some 16), (some (14, false)), .bin .eql true 3 (.t 15) (.c (.i 20))⟩,
      ⟨(some 17), none, .pick (.t 14) (.c (.bool true)) (.t 16)⟩,
      ⟨(some 18), none, .move (.t 17)⟩,
      ⟨(some 19), (some (18, false)), .move (.t 0)⟩,
      ⟨(some 20), (some (18, false)), .bin .eql true 3 (.t 19) (.c (.i 21))⟩,
      ⟨(some 21), none, .pick (.t 18) (.c (.bool true)) (.t 20)⟩,
      ⟨(some 22), none, .move (.t 21)⟩,
      ⟨(some 23), (some (22, false)), .move (.t 0)⟩,
      ⟨(some 24), (some (22, false)), .bin .eql true 3 (.t 23) (.c (.i 26))⟩,
      ⟨(some 25), none, .pick (.t 22) (.c (.bool true)) (.t 24)⟩,
      ⟨(some 26), none, .move (.t 25)⟩,
      ⟨(some 27), (some (26, false)), .move (.t 0)⟩,
      ⟨(some 28), (some (26, false)), .bin .eql true 3 (.t 27) (.c (.i 27))⟩,
      ⟨(some 29), none, .pick (.t 26) (.c (.bool true)) (.t 28)⟩,
      ⟨(some 3), none, .move (.t 29)⟩])
    (.cond (.t 3)
     (.seq (.ops [
        ⟨(some 2), none, .move (.c (.str [68, 83]))⟩])
      .ret)
     (.seq (.ops [
        ⟨(some 31), none, .move (.t 0)⟩,
        ⟨(some 32), none, .bin .eql true 3 (.t 31) (.c (.i 2))⟩,
        ⟨(some 30), none, .move (.t 32)⟩])
      (.cond (.t 30)
       (.seq (.ops [
          ⟨(some 2), none, .move (.c (.str [68, 73]))⟩])
        .ret)
       (.seq (.ops [
          ⟨(some 34), none, .move (.t 0)⟩,
          ⟨(some 35), none, .bin .eql true 3 (.t 34) (.c (.i 3))⟩,
          ⟨(some 36), none, .move (.t 35)⟩,
          ⟨(some 37), (some (36, false)), .move (.t 0)⟩,
          ⟨(some 38), (some (36, false)), .bin .eql true 3 (.t 37) (.c (.i 5))⟩,
          ⟨(some 39), none, .pick (.t 36) (.c (.bool true)) (.t 38)⟩,
          ⟨(some 33), none, .move (.t 39)⟩])
        (.cond (.t 33)
         (.seq (.ops [
            ⟨(some 2), none, .move (.c (.str [68, 77]))⟩])
          .ret)
         (.seq (.ops [
            ⟨(some 41), none, .move (.t 0)⟩,
            ⟨(some 42), none, .bin .eql true 3 (.t 41) (.c (.i 4))⟩,
            ⟨(some 40), none, .move (.t 42)⟩])
          (.cond (.t 40)
           (.seq (.ops [
              ⟨(some 2), none, .move (.c (.str [83, 77]))⟩])
            .ret)
           (.seq (.ops [
              ⟨(some 44), none, .move (.t 0)⟩,
              ⟨(some 45), none, .bin .geq true 3 (.t 44) (.c (.i 15))⟩,
              ⟨(some 46), none, .move (.t 45)⟩,
              ⟨(some 47), (some (46, true)), .move (.t 0)⟩,
              ⟨(some 48), (some (46, true)), .bin .leq true 3 (.t 47) (.c (.i 18))⟩,
              ⟨(some 49), none, .pick (.t 46) (.t 48) (.c (.bool false))⟩,
              ⟨(some 43), none, .move (.t 49)⟩])
            (.cond (.t 43)
             (.seq (.ops [
                ⟨(some 2), none, .move (.c (.str [68, 105]))⟩])
              .ret)
             (.seq (.ops [
                ⟨(some 51), none, .move (.t 0)⟩,
                ⟨(some 52), none, .bin .eql true 3 (.t 51) (.c (.i 19))⟩,
                ⟨(some 50), none, .move (.t 52)⟩])
              (.cond (.t 50)
               (.seq (.ops [
                  ⟨(some 2), none, .move (.c (.str [68, 83, 84]))⟩])
                .ret)
               (.seq (.ops [
                  ⟨(some 54), none, .move (.t 0)⟩,
                  ⟨(some 55), none, .bin .eql true 3 (.t 54) (.c (.i 22))⟩,
                  ⟨(some 56), none, .move (.t 55)⟩,
                  ⟨(some 57), (some (56, false)), .move (.t 0)⟩,
                  ⟨(some 58), (some (56, false)), .bin .eql true 3 (.t 57) (.c (.i 23))⟩,
                  ⟨(some 59), none, .pick (.t 56) (.c (.bool true)) (.t 58)⟩,
                  ⟨(some 60), none, .move (.t 59)⟩,
                  ⟨(some 61), (some (60, false)), .move (.t 0)⟩,
                  ⟨(some 62), (some (60, false)), .bin .eql true 3 (.t 61) (.c (.i 29))⟩,
                  ⟨(some 63), none, .pick (.t 60) (.c (.bool true)) (.t 62)⟩,
                  ⟨(some 53), none, .move (.t 63)⟩])
                (.cond (.t 53)
                 (.seq (.ops [
                    ⟨(some 2), none, .move (.c (.str [68]))⟩])
                  .ret)
                 (.seq (.ops [
                    ⟨(some 65), none, .move (.t 0)⟩,
                    ⟨(some 66), none, .bin .eql true 3 (.t 65) (.c (.i 24))⟩,
                    ⟨(some 67), none, .move (.t 66)⟩,
                    ⟨(some 68), (some (67, false)), .move (.t 0)⟩,
                    ⟨(some 69), (some (67, false)), .bin .eql true 3 (.t 68) (.c (.i 25))⟩,
                    ⟨(some 70), none, .pick (.t 67) (.c (.bool true)) (.t 69)⟩,
                    ⟨(some 64), none, .move (.t 70)⟩])
                  (.cond (.t 64)
                   (.seq (.ops [
                      ⟨(some 2), none, .move (.c (.str [68, 98]))⟩])
                    .ret)
                   (.seq (.ops [
                      ⟨(some 72), none, .move (.t 0)⟩,
                      ⟨(some 73), none, .bin .eql true 3 (.t 72) (.c (.i 28))⟩,
                      ⟨(some 71), none, .move (.t 73)⟩])
                    (.cond (.t 71)
                     (.seq (.ops [
                        ⟨(some 2), none, .move (.c (.str [83]))⟩])
                      .ret)
                     (.seq (.ops [
                        ⟨(some 75), none, .move (.t 0)⟩,
                        ⟨(some 76), none, .bin .eql true 3 (.t 75) (.c (.i 30))⟩,
                        ⟨(some 77), none, .move (.t 76)⟩,
                        ⟨(some 78), (some (77, false)), .move (.t 0)⟩,
                        ⟨(some 79), (some (77, false)), .bin .eql true 3 (.t 78) (.c (.i 31))⟩,
                        ⟨(some 80), none, .pick (.t 77) (.c (.bool true)) (.t 79)⟩,
                        ⟨(some 81), none, .move (.t 80)⟩,
                        ⟨(some 82), (some (81, false)), .move (.t 0)⟩,
                        ⟨(some 83), (some (81, false)), .bin .eql true 3 (.t 82) (.c (.i 32))⟩,
                        ⟨(some 84), none, .pick (.t 81) (.c (.bool true)) (.t 83)⟩,
                        ⟨(some 74), none, .move (.t 84)⟩])
                      (.cond (.t 74)
                       (.seq (.ops [
                          ⟨(some 2), none, .move (.c (.str [105]))⟩])
                        .ret)
                       (.seq (.ops [
                          ⟨(some 86), none, .move (.t 0)⟩,
                          ⟨(some 87), none, .bin .eql true 3 (.t 86) (.c (.i 33))⟩,
                          ⟨(some 85), none, .move (.t 87)⟩])
                        (.cond (.t 85)
                         (.seq (.ops [
                            ⟨(some 2), none, .move (.c (.str [45]))⟩])
                          .ret)
                         .skip)))))))))))))))))))))))
  (.seq (.ops [
     ⟨(some 2), none, .move (.c (.str []))⟩])
   .ret)))
theorem r_ref05_Form : resFn Try.prog 16 = some ⟨88, c_ref05_Form.r, [.tmp 2]⟩ := by kernel_rfl
theorem k_ref05_Form : c_ref05_Form.ok = true := by kernel_rfl

def c_law05_InstNamed : LC :=
 (.seq (.ops [
   ⟨(some 8), none, .move (.c (.bool false))⟩])
 (.seq (.seq (.ops [
     ⟨(some 13), none, .callV (.c (.fn (.func 8) [] [])) []⟩,
     ⟨(some 14), none, .un .not (.t 13)⟩])
   (.cond (.t 14)
    (.seq (.ops [
       ⟨(some 8), none, .move (.c (.bool false))⟩])
     .ret)
    .skip))
  (.seq (.ops [
     ⟨(some 15), none, .move (.t 0)⟩,
     ⟨(some 16), none, .callV (.c (.fn (.func 14) [] [])) [(.t 15)]⟩,
     ⟨(some 17), none, .move (.t 1)⟩,
     ⟨(some 18), none, .callV (.c (.fn (.func 14) [] [])) [(.t 17)]⟩,
     ⟨(some 9), none, .move (.t 16)⟩,
     ⟨(some 10), none, .move (.t 18)⟩])
   (.seq (.ops [
      ⟨(some 19), none, .move (.t 2)⟩,
      ⟨(some 20), none, .callV (.c (.fn (.func 15) [] [])) [(.t 19)]⟩,
      ⟨(some 21), none, .move (.t 3)⟩,
      ⟨(some 22), none, .callV (.c (.fn (.func 15) [] [])) [(.t 21)]⟩,
      ⟨(some 11), none, .move (.t 20)⟩,
      ⟨(some 12), none, .move (.t 22)⟩])
    (.seq (.seq (.ops [
        ⟨(some 23), none, .move (.t 9)⟩,
        ⟨(some 24), none, .bin .neq true 9 (.t 23) (.c (.str []))⟩,
        ⟨(some 25), none, .move (.t 0)⟩,
        ⟨(some 26), none, .bin .geq true 3 (.t 25) (.c (.i 1))⟩,
        ⟨(some 27), none, .move (.t 26)⟩,
        ⟨(some 28), (some (27, true)), .move (.t 0)⟩,
        ⟨(some 29), (some (27, true)), .bin .leq true 3 (.t 28) (.c (.i 33))⟩,
        ⟨(some 30), none, .pick (.t 27) (.t 29) (.c (.bool false))⟩,
        ⟨(some 31), none, .bin .neq false 4 (.t 24) (.t 30)⟩,
        ⟨(some 32), none, .move (.t 31)⟩,
        ⟨(some 33), (some (32, false)), .move (.t 11)⟩,
        ⟨(some 34), (some (32, false)), .bin .neq true 9 (.t 33) (.c (.str []))⟩,
        ⟨(some 35), (some (32, false)), .move (.t 2)⟩,
        ⟨(some 36), (some (32, false)), .bin .geq true 3 (.t 35) (.c (.i 0))⟩,
        ⟨(some 37), (some (32, false)), .move (.t 36)⟩,
        ⟨(some 38), (some (37, true)), .move (.t 2)⟩,
        ⟨(some 39), (some (37, true)), .bin .leq true 3 (.t 38) (.c (.i 15))⟩,
        ⟨(some 40), (some (32, false)), .pick (.t 37) (.t 39) (.c (.bool false))⟩,
        ⟨(some 41), (some (32, false)), .bin .neq false 4 (.t 34) (.t 40)⟩,
        ⟨(some 42), none, .pick (.t 32) (.c (.bool true)) (.t 41)⟩])
      (.cond (.t 42)
       (.seq (.ops [
          ⟨(some 8), none, .move (.c (.bool false))⟩])
        .ret)
       .skip))
     (.seq (.ops [
        ⟨(some 43), none, .move (.t 9)⟩,
        ⟨(some 44), none, .bin .eql true 9 (.t 43) (.c (.str []))⟩,
        ⟨(some 45), none, .move (.t 44)⟩,
        ⟨(some 46), (some (45, false)), .move (.t 9)⟩,
        ⟨(some 47), (some (45, false)), .move (.t 10)⟩,
        ⟨(some 48), (some (45, false)), .bin .neq false 9 (.t 46) (.t 47)⟩,
        ⟨(some 49), none, .pick (.t 45) (.c (.bool true)) (.t 48)⟩,
        ⟨(some 50), none, .move (.t 49)⟩,
        ⟨(some 51), (some (50, false)), .move (.t 0)⟩,
        ⟨(some 52), (some (50, false)), .move (.t 1)⟩,
        ⟨(some 53), (some (50, false)), .bin .eql false 3 (.t 51) (.t 52)⟩,
        ⟨(some 54), none, .pick (.t 50) (.c (.bool true)) (.t 53)⟩,
        ⟨(some 55), none, .move (.t 54)⟩,
        ⟨(some 56), (some (55, false)), .move (.t 0)⟩,
        ⟨(some 57), (some (55, false)), .callV (.c (.fn (.func 16) [] [])) [(.t 56)]⟩,
        ⟨(some 58), (some (55, false)), .move (.t 1)⟩,
        ⟨(some 59), (some (55, false)), .callV (.c (.fn (.func 16) [] [])) [(.t 58)]⟩,
        ⟨(some 60), (some (55, false)), .bin .neq false 9 (.t 57) (.t 59)⟩,
        ⟨(some 61), none, .pick (.t 55) (.c (.bool true)) (.t 60)⟩,
        ⟨(some 62), none, .move (.t 61)⟩,
        ⟨(some 63), (some (62, true)), .move (.t 11)⟩,
        ⟨(some 64), (some (62, true)), .bin .eql true 9 (.t 63) (.c (.str []))⟩,
        ⟨(some 65), (some (62, true)), .move (.t 64)⟩,
        ⟨(some 66), (some (65, false)), .move (.t 11)⟩,
        ⟨(some 67), (some (65, false)), .move (.t 12)⟩,
        ⟨(some 68), (some (65, false)), .bin .eql false 9 (.t 66) (.t 67)⟩,
        ⟨(some 69), (some (65, false)), .move (.t 2)⟩,
        ⟨(some 70), (some (65, false)), .move (.t 3)⟩,
        ⟨(some 71), (some (65, false)), .bin .eql false 3 (.t 69) (.t 70)⟩,
        ⟨(some 72), (some (65, false)), .bin .eql false 4 (.t 68) (.t 71)⟩,
        ⟨(some 73), (some (62, true)), .pick (.t 65) (.c (.bool true)) (.t 72)⟩,
        ⟨(some 74), none, .pick (.t 62) (.t 73) (.c (.bool false))⟩,
        ⟨(some 8), none, .move (.t 74)⟩])
      .ret))))))
theorem r_law05_InstNamed : resFn Try.prog 4 = some ⟨75, c_law05_InstNamed.r, [.tmp 8]⟩ := by kernel_rfl
theorem k_law05_InstNamed : c_law05_InstNamed.ok = true := by kernel_rfl



theorem ref05_Form_in (k : Nat) (h : k < 34) : FnS Try.prog 16 [.i k] (.str (FS.getD k [])) [] := by
  refine FnS.val rfl (call_body r_ref05_Form k_ref05_Form (by simp) ?_)
  match k, h with
  | 0, _ => simp [c_ref05_Form, FS]
  | 1, _ => simp [c_ref05_Form, FS]
  | 2, _ => simp [c_ref05_Form, FS]
  | 3, _ => simp [c_ref05_Form, FS]
  | 4, _ => simp [c_ref05_Form, FS]
  | 5, _ => simp [c_ref05_Form, FS]
  | 6, _ => simp [c_ref05_Form, FS]
  | 7, _ => simp [c_ref05_Form, FS]
  | 8, _ => simp [c_ref05_Form, FS]
  | 9, _ => simp [c_ref05_Form, FS]
  | 10, _ => simp [c_ref05_Form, FS]
  | 11, _ => simp [c_ref05_Form, FS]
  | 12, _ => simp [c_ref05_Form, FS]
  | 13, _ => simp [c_ref05_Form, FS]
  | 14, _ => simp [c_ref05_Form, FS]
  | 15, _ => simp [c_ref05_Form, FS]
  | 16, _ => simp [c_ref05_Form, FS]
  | 17, _ => simp [c_ref05_Form, FS]
  | 18, _ => simp [c_ref05_Form, FS]
  | 19, _ => simp [c_ref05_Form, FS]
  | 20, _ => simp [c_ref05_Form, FS]
  | 21, _ => simp [c_ref05_Form, FS]
  | 22, _ => simp [c_ref05_Form, FS]
  | 23, _ => simp [c_ref05_Form, FS]
  | 24, _ => simp [c_ref05_Form, FS]
  | 25, _ => simp [c_ref05_Form, FS]
  | 26, _ => simp [c_ref05_Form, FS]
  | 27, _ => simp [c_ref05_Form, FS]
  | 28, _ => simp [c_ref05_Form, FS]
  | 29, _ => simp [c_ref05_Form, FS]
  | 30, _ => simp [c_ref05_Form, FS]
  | 31, _ => simp [c_ref05_Form, FS]
  | 32, _ => simp [c_ref05_Form, FS]
  | 33, _ => simp [c_ref05_Form, FS]
  | n + 34, h => omega
theorem ref05_Form_ok (op : Int) : FnS Try.prog 16 [.i op] (.str (fsOf op)) [] := by
  by_cases h : 0 ≤ op ∧ op < 34
  · obtain ⟨k, rfl⟩ := Int.eq_ofNat_of_zero_le h.1
    have e : fsOf k = FS.getD k [] := by simp only [fsOf]; rw [ix_in h.1 h.2]; rfl
    rw [e]
    exact ref05_Form_in k (by omega)
  · have e : fsOf op = [] := by simp [fsOf, ix_out h, FS]
    rw [e]
    refine FnS.val rfl (call_body r_ref05_Form k_ref05_Form (by simp) ?_)
    have n1 : ¬ op = 1 := by omega
    have n2 : ¬ op = 2 := by omega
    have n3 : ¬ op = 3 := by omega
    have n4 : ¬ op = 4 := by omega
    have n5 : ¬ op = 5 := by omega
    have n6 : ¬ op = 6 := by omega
    have n7 : ¬ op = 7 := by omega
    have n8 : ¬ op = 8 := by omega
    have n9 : ¬ op = 9 := by omega
    have n10 : ¬ op = 10 := by omega
    have n11 : ¬ op = 11 := by omega
    have n12 : ¬ op = 12 := by omega
    have n13 : ¬ op = 13 := by omega
    have n14 : ¬ op = 14 := by omega
    have n15 : ¬ op = 15 := by omega
    have n16 : ¬ op = 16 := by omega
    have n17 : ¬ op = 17 := by omega
    have n18 : ¬ op = 18 := by omega
    have n19 : ¬ op = 19 := by omega
    have n20 : ¬ op = 20 := by omega
    have n21 : ¬ op = 21 := by omega
    have n22 : ¬ op = 22 := by omega
    have n23 : ¬ op = 23 := by omega
    have n24 : ¬ op = 24 := by omega
    have n25 : ¬ op = 25 := by omega
    have n26 : ¬ op = 26 := by omega
    have n27 : ¬ op = 27 := by omega
    have n28 : ¬ op = 28 := by omega
    have n29 : ¬ op = 29 := by omega
    have n30 : ¬ op = 30 := by omega
    have n31 : ¬ op = 31 := by omega
    have n32 : ¬ op = 32 := by omega
    have n33 : ¬ op = 33 := by omega
    by_cases hn : op < 0
    · have g6 : ¬ 6 ≤ op := by omega
      have g15 : ¬ 15 ≤ op := by omega
      simp [c_ref05_Form, g6, g15, n1, n2, n3, n4, n5, n6, n7, n8, n9, n10, n11, n12, n13, n14, n15, n16, n17, n18, n19, n20, n21, n22, n23, n24, n25, n26, n27, n28, n29, n30, n31, n32, n33]
    · have g6 : ¬ op ≤ 14 := by omega
      have g15 : ¬ op ≤ 18 := by omega
      simp [c_ref05_Form, g6, g15, n1, n2, n3, n4, n5, n6, n7, n8, n9, n10, n11, n12, n13, n14, n15, n16, n17, n18, n19, n20, n21, n22, n23, n24, n25, n26, n27, n28, n29, n30, n31, n32, n33]
/-- No two operations of one name have one form. -/
theorem named_table : (List.range 34).all (fun i => (List.range 34).all fun j => (FT.getD i ([], 0, 0, 0)).1 == [] || !((FT.getD i ([], 0, 0, 0)).1 == (FT.getD j ([], 0, 0, 0)).1) || i == j || !(FS.getD i [] == FS.getD j [])) = true := by decide +kernel
theorem named_some : (List.range 34).all (fun i => decide ((FT.getD i ([], 0, 0, 0)).1 ≠ []) == decide (1 ≤ i)) = true := by decide +kernel
theorem regs_table : (List.range 16).all (fun i => !(RG.getD i [] == []) && (List.range 16).all fun j => (RG.getD i [] == RG.getD j []) == (i == j)) = true := by decide +kernel
theorem name_none {op : Int} : (ftOf op).1 ≠ [] ↔ 1 ≤ op ∧ op ≤ 33 := by
  by_cases h : 0 ≤ op ∧ op < 34
  · obtain ⟨k, rfl⟩ := Int.eq_ofNat_of_zero_le h.1
    have e : ftOf k = FT.getD k ([], 0, 0, 0) := by simp only [ftOf]; rw [ix_in h.1 h.2]; rfl
    have ht := List.all_eq_true.1 named_some k (List.mem_range.2 (by omega))
    rw [e]
    simp at ht ⊢
    by_cases hk : 1 ≤ k
    · simp [hk] at ht; simp [ht]; omega
    · simp [hk] at ht; simp [ht]; omega
  · have e : ftOf op = ([], 0, 0, 0) := by simp [ftOf, ix_out h, FT]
    rw [e]
    simp
    omega
theorem name_form {a b : Int} (ha : (ftOf a).1 ≠ []) (hn : (ftOf a).1 = (ftOf b).1) (hab : a ≠ b) : fsOf a ≠ fsOf b := by
  have h1 := name_none.1 ha
  have h2 := name_none.1 (hn ▸ ha)
  obtain ⟨i, rfl⟩ := Int.eq_ofNat_of_zero_le (show 0 ≤ a by omega)
  obtain ⟨j, rfl⟩ := Int.eq_ofNat_of_zero_le (show 0 ≤ b by omega)
  have ht := List.all_eq_true.1 (List.all_eq_true.1 named_table i (List.mem_range.2 (by omega))) j (List.mem_range.2 (by omega))
  have e : ∀ k : Nat, k < 34 → ftOf k = FT.getD k ([], 0, 0, 0) := fun k hk => by simp only [ftOf]; rw [ix_in (by omega) (by omega)]; rfl
  have e2 : ∀ k : Nat, k < 34 → fsOf k = FS.getD k [] := fun k hk => by simp only [fsOf]; rw [ix_in (by omega) (by omega)]; rfl
  rw [e i (by omega)] at ha hn
  rw [e j (by omega)] at hn
  rw [e2 i (by omega), e2 j (by omega)]
  have hij : i ≠ j := fun e => hab (by rw [e])
  intro hf
  rw [hf, hn] at ht
  rw [hn] at ha
  simp at ht
  rcases ht with ht | ht
  · exact ha (by simpa using ht)
  · exact hij ht
theorem reg_none {r : Int} : rgOf r ≠ [] ↔ 0 ≤ r ∧ r ≤ 15 := by
  by_cases h : 0 ≤ r ∧ r < 16
  · obtain ⟨k, rfl⟩ := Int.eq_ofNat_of_zero_le h.1
    have e : rgOf k = RG.getD k [] := by simp only [rgOf]; rw [ix_in h.1 h.2]; rfl
    have ht := List.all_eq_true.1 regs_table k (List.mem_range.2 (by omega))
    rw [Bool.and_eq_true] at ht
    rw [e]
    have := ht.1
    simp at this ⊢
    simp [this]
    omega
  · have e : rgOf r = [] := by simp [rgOf, ix_out h, RG]
    rw [e]
    simp
    omega
theorem reg_same {r s : Int} (hr : rgOf r ≠ []) : rgOf r = rgOf s ↔ r = s := by
  constructor
  · intro h
    have h1 := reg_none.1 hr
    have h2 := reg_none.1 (h ▸ hr)
    obtain ⟨i, rfl⟩ := Int.eq_ofNat_of_zero_le h1.1
    obtain ⟨j, rfl⟩ := Int.eq_ofNat_of_zero_le h2.1
    have e : ∀ k : Nat, k < 16 → rgOf k = RG.getD k [] := fun k hk => by simp only [rgOf]; rw [ix_in (by omega) (by omega)]; rfl
    rw [e i (by omega), e j (by omega)] at h
    have ht := List.all_eq_true.1 regs_table i (List.mem_range.2 (by omega))
    rw [Bool.and_eq_true] at ht
    have hj := List.all_eq_true.1 ht.2 j (List.mem_range.2 (by omega))
    rw [h] at hj
    simp at hj
    rw [hj]
  · intro h; rw [h]
theorem eqb (a b : Bool) : eqA Try.prog false 4 (.bool a) (.bool b) = some (a == b) := by cases a <;> cases b <;> kernel_rfl
theorem law05_InstNamed_run (a b r s : Int) (_ : -9223372036854775808 ≤ a ∧ a < 9223372036854775808) (_ : -9223372036854775808 ≤ b ∧ b < 9223372036854775808) (_ : -9223372036854775808 ≤ r ∧ r < 9223372036854775808) (_ : -9223372036854775808 ≤ s ∧ s < 9223372036854775808) : CallL Try.prog (.fn 4) [.i a, .i b, .i r, .i s] [] fun v _ => v = .bool true := by
  refine call_body r_law05_InstNamed k_law05_InstNamed (by simp) ?_
  rw [c_law05_InstNamed, wp_assoc, wp_assoc, wp_assoc, wp_assoc]
  have n1 := @name_none a
  have n2 := @reg_none r
  have n3 := @name_form a b
  have n4 := @reg_same r s
  have cx := inst_Name_ok a
  have cy := inst_Name_ok b
  have cu := inst_Register_ok r
  have cv := inst_Register_ok s
  generalize (ftOf a).1 = x at *
  generalize (ftOf b).1 = y at *
  generalize rgOf r = u at *
  generalize rgOf s = v at *
  refine wp_cut (fun ρ D G => D = [] ∧ lk ρ 0 = .i a ∧ lk ρ 1 = .i b ∧ lk ρ 2 = .i r ∧ lk ρ 3 = .i s ∧ lk ρ 9 = .str x ∧ lk ρ 10 = .str y ∧ lk ρ 11 = .str u ∧ lk ρ 12 = .str v) (fun Nx hNx => ?_) (fun ρ D G hΦ => ?_)
  · simp
    refine CallL_F law05_lives_ok (by simp) ?_
    simp
    refine CallL_F cx (by simp) ?_
    simp
    refine CallL_F cy (by simp) ?_
    simp
    refine CallL_F cu (by simp) ?_
    simp
    refine CallL_F cv (by simp) ?_
    by_cases hx : x = []
    · have ha : ¬ (1 ≤ a ∧ a ≤ 33) := fun h => n1.2 h hx
      by_cases a1 : 1 ≤ a
      · have a2 : ¬ a ≤ 33 := fun h => ha ⟨a1, h⟩
        by_cases hu : u = []
        · have hr : ¬ (0 ≤ r ∧ r ≤ 15) := fun h => n2.2 h hu
          by_cases r0 : 0 ≤ r
          · have r2 : ¬ r ≤ 15 := fun h => hr ⟨r0, h⟩
            simp [hx, a1, a2, hu, r0, r2, eqb]
            exact hNx _ _ _ ⟨rfl, by simp, by simp, by simp, by simp, by simp [hx], by simp, by simp [hu], by simp⟩
          · simp [hx, a1, a2, hu, r0, eqb]
            exact hNx _ _ _ ⟨rfl, by simp, by simp, by simp, by simp, by simp [hx], by simp, by simp [hu], by simp⟩
        · have hr := n2.1 hu
          simp [hx, a1, a2, hu, hr.1, hr.2, eqb]
          exact hNx _ _ _ ⟨rfl, by simp, by simp, by simp, by simp, by simp [hx], by simp, by simp, by simp⟩
      · have a2 : True := trivial
        by_cases hu : u = []
        · have hr : ¬ (0 ≤ r ∧ r ≤ 15) := fun h => n2.2 h hu
          by_cases r0 : 0 ≤ r
          · have r2 : ¬ r ≤ 15 := fun h => hr ⟨r0, h⟩
            simp [hx, a1, a2, hu, r0, r2, eqb]
            exact hNx _ _ _ ⟨rfl, by simp, by simp, by simp, by simp, by simp [hx], by simp, by simp [hu], by simp⟩
          · simp [hx, a1, a2, hu, r0, eqb]
            exact hNx _ _ _ ⟨rfl, by simp, by simp, by simp, by simp, by simp [hx], by simp, by simp [hu], by simp⟩
        · have hr := n2.1 hu
          simp [hx, a1, a2, hu, hr.1, hr.2, eqb]
          exact hNx _ _ _ ⟨rfl, by simp, by simp, by simp, by simp, by simp [hx], by simp, by simp, by simp⟩
    · have ha := n1.1 hx
      by_cases hu : u = []
      · have hr : ¬ (0 ≤ r ∧ r ≤ 15) := fun h => n2.2 h hu
        by_cases r0 : 0 ≤ r
        · have r2 : ¬ r ≤ 15 := fun h => hr ⟨r0, h⟩
          simp [hx, ha.1, ha.2, hu, r0, r2, eqb]
          exact hNx _ _ _ ⟨rfl, by simp, by simp, by simp, by simp, by simp [hx], by simp, by simp [hu], by simp⟩
        · simp [hx, ha.1, ha.2, hu, r0, eqb]
          exact hNx _ _ _ ⟨rfl, by simp, by simp, by simp, by simp, by simp [hx], by simp, by simp [hu], by simp⟩
      · have hr := n2.1 hu
        simp [hx, ha.1, ha.2, hu, hr.1, hr.2, eqb]
        exact hNx _ _ _ ⟨rfl, by simp, by simp, by simp, by simp, by simp [hx], by simp, by simp, by simp⟩
  obtain ⟨rfl, e0, e1, e2, e3, e9, e10, e11, e12⟩ := hΦ
  by_cases hx : x = []
  · by_cases hu : u = []
    · simp [e0, e1, e2, e3, e9, e10, e11, e12, hx, hu, eqb]
    · simp [e0, e1, e2, e3, e9, e10, e11, e12, hx, hu, eqb, n4 hu]
  by_cases hxy : x = y
  · by_cases hab : a = b
    · by_cases hu : u = []
      · simp [e0, e1, e2, e3, e9, e10, e11, e12, hx, hxy, hab, hu, eqb]
      · simp [e0, e1, e2, e3, e9, e10, e11, e12, hx, hxy, hab, hu, eqb, n4 hu]
    · have hf := n3 hx hxy hab
      simp [e0, e1, e2, e3, e9, e10, e11, e12, hx, hxy, hab, eqb]
      have hy : ¬ y = [] := hxy ▸ hx
      refine ⟨fun h => absurd h hy, fun _ => ?_⟩
      refine CallL_F (ref05_Form_ok a) (by simp) ?_
      simp [e1]
      refine CallL_F (ref05_Form_ok b) (by simp) ?_
      by_cases hu : u = []
      · simp [e11, hu, hf]
      · simp [e11, e12, e2, e3, hu, hf, eqb, n4 hu]
  · by_cases hu : u = []
    · simp [e0, e1, e2, e3, e9, e10, e11, e12, hx, hxy, hu, eqb]
    · simp [e0, e1, e2, e3, e9, e10, e11, e12, hx, hxy, hu, eqb, n4 hu]
end Go.Proofs.Ytbcfbojigokplaa
