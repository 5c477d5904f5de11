/- The statement MarshalJoins: its walk. -/
import Derived.Test.YtlfffpmdofacjaaFnD
namespace Go.Proofs.Ytlfffpmdofacjaa
open Go.Sv
set_option linter.unusedSimpArgs false

def c_law27_lives : LC :=
 (.seq (.ops [
   ⟨(some 0), none, .move (.c (.bool false))⟩])
 (.seq (.ops [
    ⟨(some 4), none, .buildSl 1 1 [(.u 0)] [(0, 1, (.c (.u 258)))]⟩,
    ⟨(some 5), none, .callV (.c (.fn (.func 12) [] [])) [(.t 4), (.c (.i 1))]⟩,
    ⟨(some 3), none, .move (.t 5)⟩,
    ⟨(some 6), none, .extract 0 (.t 3)⟩,
    ⟨(some 7), none, .extract 1 (.t 3)⟩,
    ⟨(some 1), none, .move (.t 6)⟩,
    ⟨(some 2), none, .move (.t 7)⟩])
  (.seq (.ops [
     ⟨(some 8), none, .move (.t 2)⟩,
     ⟨(some 9), none, .bin .eql true 25 (.t 8) (.c (.i 0))⟩,
     ⟨(some 10), none, .move (.t 9)⟩,
     ⟨(some 11), (some (10, true)), .move (.t 1)⟩,
     ⟨(some 12), (some (10, true)), .bin .eql true 9 (.t 11) (.c (.str [2, 1, 0, 0, 0, 0, 0, 0]))⟩,
     ⟨(some 13), none, .pick (.t 10) (.t 12) (.c (.bool false))⟩,
     ⟨(some 0), none, .move (.t 13)⟩])
   .ret)))
theorem r_law27_lives : resFn Try.prog 11 = some ⟨14, c_law27_lives.r, [.tmp 0]⟩ := by kernel_rfl
theorem k_law27_lives : c_law27_lives.ok = true := by kernel_rfl

def c_law27_MarshalJoins : LC :=
 (.seq (.ops [
   ⟨(some 4), none, .move (.c (.bool false))⟩])
 (.seq (.seq (.ops [
     ⟨(some 15), none, .callV (.c (.fn (.func 11) [] [])) []⟩,
     ⟨(some 16), none, .un .not (.t 15)⟩])
   (.cond (.t 16)
    (.seq (.ops [
       ⟨(some 4), none, .move (.c (.bool false))⟩])
     .ret)
    .skip))
  (.seq (.seq (.ops [
      ⟨(some 17), none, .move (.t 0)⟩,
      ⟨(some 18), none, .lenSl (.t 17)⟩,
      ⟨(some 19), none, .bin .gtr true 3 (.t 18) (.c (.i 30))⟩,
      ⟨(some 20), none, .move (.t 19)⟩,
      ⟨(some 21), (some (20, false)), .move (.t 1)⟩,
      ⟨(some 22), (some (20, false)), .lenSl (.t 21)⟩,
      ⟨(some 23), (some (20, false)), .bin .gtr true 3 (.t 22) (.c (.i 30))⟩,
      ⟨(some 24), none, .pick (.t 20) (.c (.bool true)) (.t 23)⟩])
    (.cond (.t 24)
     (.seq (.ops [
        ⟨(some 4), none, .move (.c (.bool true))⟩])
      .ret)
     .skip))
   (.seq (.ops [
      ⟨(some 26), none, .move (.t 0)⟩,
      ⟨(some 27), none, .move (.t 0)⟩,
      ⟨(some 28), none, .lenSl (.t 27)⟩,
      ⟨(some 29), none, .callV (.c (.fn (.func 12) [] [])) [(.t 26), (.t 28)]⟩,
      ⟨(some 25), none, .move (.t 29)⟩,
      ⟨(some 30), none, .extract 0 (.t 25)⟩,
      ⟨(some 31), none, .extract 1 (.t 25)⟩,
      ⟨(some 5), none, .move (.t 30)⟩,
      ⟨(some 6), none, .move (.t 31)⟩])
    (.seq (.ops [
       ⟨(some 33), none, .move (.t 1)⟩,
       ⟨(some 34), none, .move (.t 1)⟩,
       ⟨(some 35), none, .lenSl (.t 34)⟩,
       ⟨(some 36), none, .callV (.c (.fn (.func 12) [] [])) [(.t 33), (.t 35)]⟩,
       ⟨(some 32), none, .move (.t 36)⟩,
       ⟨(some 37), none, .extract 0 (.t 32)⟩,
       ⟨(some 38), none, .extract 1 (.t 32)⟩,
       ⟨(some 7), none, .move (.t 37)⟩,
       ⟨(some 8), none, .move (.t 38)⟩])
     (.seq (.ops [
        ⟨(some 39), none, .move (.t 0)⟩,
        ⟨(some 40), none, .callV (.c (.fn (.func 13) [] [])) [(.t 39)]⟩,
        ⟨(some 41), none, .move (.t 1)⟩,
        ⟨(some 42), none, .appG 1 (.t 40) (.t 41)⟩,
        ⟨(some 9), none, .move (.t 42)⟩])
      (.seq (.ops [
         ⟨(some 44), none, .move (.t 9)⟩,
         ⟨(some 45), none, .move (.t 9)⟩,
         ⟨(some 46), none, .lenSl (.t 45)⟩,
         ⟨(some 47), none, .callV (.c (.fn (.func 12) [] [])) [(.t 44), (.t 46)]⟩,
         ⟨(some 43), none, .move (.t 47)⟩,
         ⟨(some 48), none, .extract 0 (.t 43)⟩,
         ⟨(some 49), none, .extract 1 (.t 43)⟩,
         ⟨(some 10), none, .move (.t 48)⟩,
         ⟨(some 11), none, .move (.t 49)⟩])
       (.seq (.ops [
          ⟨(some 51), none, .move (.t 5)⟩,
          ⟨(some 52), none, .move (.t 7)⟩,
          ⟨(some 53), none, .bin .add false 9 (.t 51) (.t 52)⟩,
          ⟨(some 54), none, .callV (.c (.fn (.func 14) [] [])) [(.t 53)]⟩,
          ⟨(some 50), none, .move (.t 54)⟩,
          ⟨(some 55), none, .extract 0 (.t 50)⟩,
          ⟨(some 56), none, .extract 1 (.t 50)⟩,
          ⟨(some 12), none, .move (.t 55)⟩,
          ⟨(some 13), none, .move (.t 56)⟩])
        (.seq (.ops [
           ⟨(some 57), none, .move (.t 0)⟩,
           ⟨(some 58), none, .lenSl (.t 57)⟩,
           ⟨(some 59), none, .mkSl 1 [(.u 0)] (.t 58) (.t 58)⟩,
           ⟨(some 60), none, .move (.t 1)⟩,
           ⟨(some 61), none, .appG 1 (.t 59) (.t 60)⟩,
           ⟨(some 14), none, .move (.t 61)⟩])
         (.seq (.ops [
            ⟨(some 62), none, .move (.t 6)⟩,
            ⟨(some 63), none, .bin .eql true 25 (.t 62) (.c (.i 0))⟩,
            ⟨(some 64), none, .move (.t 63)⟩,
            ⟨(some 65), (some (64, true)), .move (.t 8)⟩,
            ⟨(some 66), (some (64, true)), .bin .eql true 25 (.t 65) (.c (.i 0))⟩,
            ⟨(some 67), none, .pick (.t 64) (.t 66) (.c (.bool false))⟩,
            ⟨(some 68), none, .move (.t 67)⟩,
            ⟨(some 69), (some (68, true)), .move (.t 11)⟩,
            ⟨(some 70), (some (68, true)), .bin .eql true 25 (.t 69) (.c (.i 0))⟩,
            ⟨(some 71), none, .pick (.t 68) (.t 70) (.c (.bool false))⟩,
            ⟨(some 72), none, .move (.t 71)⟩,
            ⟨(some 73), (some (72, true)), .move (.t 5)⟩,
            ⟨(some 74), (some (72, true)), .move (.t 7)⟩,
            ⟨(some 75), (some (72, true)), .bin .add false 9 (.t 73) (.t 74)⟩,
            ⟨(some 76), (some (72, true)), .move (.t 10)⟩,
            ⟨(some 77), (some (72, true)), .bin .eql false 9 (.t 75) (.t 76)⟩,
            ⟨(some 78), none, .pick (.t 72) (.t 77) (.c (.bool false))⟩,
            ⟨(some 79), none, .move (.t 78)⟩,
            ⟨(some 80), (some (79, true)), .move (.t 13)⟩,
            ⟨(some 81), (some (79, true)), .bin .eql true 25 (.t 80) (.c (.i 0))⟩,
            ⟨(some 82), none, .pick (.t 79) (.t 81) (.c (.bool false))⟩,
            ⟨(some 83), none, .move (.t 82)⟩,
            ⟨(some 84), (some (83, true)), .move (.t 12)⟩,
            ⟨(some 85), (some (83, true)), .move (.t 0)⟩,
            ⟨(some 86), (some (83, true)), .move (.t 14)⟩,
            ⟨(some 87), (some (83, true)), .callV (.c (.fn (.func 16) [] [])) [(.t 85), (.t 86)]⟩,
            ⟨(some 88), (some (83, true)), .callV (.c (.fn (.func 15) [] [])) [(.t 84), (.t 87)]⟩,
            ⟨(some 89), none, .pick (.t 83) (.t 88) (.c (.bool false))⟩,
            ⟨(some 4), none, .move (.t 89)⟩])
          .ret))))))))))
theorem r_law27_MarshalJoins : resFn Try.prog 3 = some ⟨90, c_law27_MarshalJoins.r, [.tmp 4]⟩ := by kernel_rfl
theorem k_law27_MarshalJoins : c_law27_MarshalJoins.ok = true := by kernel_rfl



theorem bytes_258 : bytesUs [258] = [2, 1, 0, 0, 0, 0, 0, 0] := by
  simp only [bytesUs, bytesN, uB_eq, shrU_eq]
  decide
theorem law27_lives_ok : FnS Try.prog 11 [] (.bool true) [] := by
  refine FnS.val rfl (call_body r_law27_lives k_law27_lives (by simp) ?_)
  have h1 : fitE [258] 1 = 0 := fitE_own (a := [258]) (by decide)
  have h2 : fitR [258] 1 = [258] := fitR_own (a := [258]) (by decide)
  simp [c_law27_lives]
  refine CallL_F (marshal_Bytes_ok [258] 1 (by decide)) (by simp) ?_
  simp [h1, h2, bytes_258]

theorem joins_nat (a b : List UInt64) (ha : a.length ≤ 30) (hb : b.length ≤ 30) : natE (bytesUs a ++ bytesUs b) = 0 ∧ natR (bytesUs a ++ bytesUs b) = toL (val (a ++ b)) := by
  rw [← bytesUs_append]
  have hl := bytesUs_length (a ++ b)
  have hl2 : (a ++ b).length = a.length + b.length := by simp
  have h1 : (bytesUs (a ++ b)).length % 8 = 0 := by omega
  have h2 : ¬ 4096 < (bytesUs (a ++ b)).length := by omega
  have h3 : (bytesUs (a ++ b)).length / 8 = (a ++ b).length := by omega
  refine ⟨by simp [natE, h1, h2], ?_⟩
  rw [natR, if_neg (by simp [h1, h2]), h3, words_bytes _ _ (Nat.le_refl _), List.take_length]
theorem law27_MarshalJoins_run (a b : List UInt64) : CallL Try.prog (.fn 3) [LU a, LU b] [] fun v _ => v = .bool true := by
  refine call_body r_law27_MarshalJoins k_law27_MarshalJoins (by simp) ?_
  simp [c_law27_MarshalJoins]
  refine CallL_F law27_lives_ok (by simp) ?_
  by_cases ha : 30 < a.length
  · have hai : (30 : Int) < a.length := by omega
    simp [hai]
  · have hai : ¬ (30 : Int) < a.length := by omega
    by_cases hb : 30 < b.length
    · have hbi : (30 : Int) < b.length := by omega
      simp [hai, hbi]
    · have hbi : ¬ (30 : Int) < b.length := by omega
      have e1 := fitE_own (a := a) (by omega)
      have e2 := fitR_own (a := a) (by omega)
      have e3 := fitE_own (a := b) (by omega)
      have e4 := fitR_own (a := b) (by omega)
      have e5 := fitE_own (a := a ++ b) (by simp; omega)
      have e6 := fitR_own (a := a ++ b) (by simp; omega)
      obtain ⟨n1, n2⟩ := joins_nat a b (by omega) (by omega)
      simp [hai, hbi]
      refine CallL_F (marshal_Bytes_ok a a.length (by omega)) (by simp) ?_
      simp [e1, e2]
      refine CallL_F (marshal_Bytes_ok b b.length (by omega)) (by simp) ?_
      simp [e3, e4]
      refine CallL_row (kit_Own_ok a (by omega)) (by simp) ?_
      simp [RU]
      refine ⟨by omega, by omega, ?_⟩
      refine CallL_F (marshal_Bytes_ok (a ++ b) ((a.length : Int) + b.length) (by simp; omega)) (by simp) ?_
      have el : ((a.length : Int) + b.length) = ((a ++ b).length : Nat) := by simp
      rw [el, e5, e6, bytesUs_append]
      have la := bytesUs_length a
      have lb := bytesUs_length b
      simp
      refine ⟨by omega, ?_⟩
      refine CallL_F (marshal_Nat_ok (bytesUs a ++ bytesUs b) (by simp; omega)) (by simp) ?_
      rw [n1, n2]
      simp [RU, repU]
      refine ⟨by omega, by omega, by omega, by omega, ?_⟩
      refine CallL_F (ref02_Add_ok a (List.replicate a.length 0 ++ b) (by omega) (by simp; omega)) (bors2 (by simp) (by simp)) ?_
      simp [RU]
      have e7 : val a + val (List.replicate a.length 0 ++ b) = val (a ++ b) := by simp [val_append, val_rep0]
      refine CallL_F (kit_Natural_ok (toL (val (a ++ b))) (toL (val a + val (List.replicate a.length 0 ++ b))) (by have := toL_length_val (a ++ b); simp at this; omega) (by rw [e7]; have := toL_length_val (a ++ b); simp at this; omega)) (bors2 (by simp) (by simp)) ?_
      simp [val_toL, val_append, val_rep0]
end Go.Proofs.Ytlfffpmdofacjaa
