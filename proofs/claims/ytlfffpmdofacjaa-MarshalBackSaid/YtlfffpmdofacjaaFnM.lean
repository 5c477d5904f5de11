/- The statement MarshalBack: its walk. -/
import Derived.Test.YtlfffpmdofacjaaFnF
namespace Go.Proofs.Ytlfffpmdofacjaa
open Go.Sv
set_option linter.unusedSimpArgs false

def c_law27_lives : LC :=
 (.seq (.ops [
   ⟨(some 0), none, .move (.c (.bool false))⟩])
 (.seq (.ops [
    ⟨(some 4), none, .buildSl 1 1 [(.u 0)] [(0, 1, (.c (.u 258)))]⟩,
    ⟨(some 5), none, .callV (.c (.fn (.func 12) [] [])) [(.t 4), (.c (.i 1))]⟩,
    ⟨(some 3), none, .move (.t 5)⟩,
    ⟨(some 6), none, .extract 0 (.t 3)⟩,
    ⟨(some 7), none, .extract 1 (.t 3)⟩,
    ⟨(some 1), none, .move (.t 6)⟩,
    ⟨(some 2), none, .move (.t 7)⟩])
  (.seq (.ops [
     ⟨(some 8), none, .move (.t 2)⟩,
     ⟨(some 9), none, .bin .eql true 25 (.t 8) (.c (.i 0))⟩,
     ⟨(some 10), none, .move (.t 9)⟩,
     ⟨(some 11), (some (10, true)), .move (.t 1)⟩,
     ⟨(some 12), (some (10, true)), .bin .eql true 9 (.t 11) (.c (.str [2, 1, 0, 0, 0, 0, 0, 0]))⟩,
     ⟨(some 13), none, .pick (.t 10) (.t 12) (.c (.bool false))⟩,
     ⟨(some 0), none, .move (.t 13)⟩])
   .ret)))
theorem r_law27_lives : resFn Try.prog 11 = some ⟨14, c_law27_lives.r, [.tmp 0]⟩ := by kernel_rfl
theorem k_law27_lives : c_law27_lives.ok = true := by kernel_rfl

def c_law27_MarshalBack : LC :=
 (.seq (.ops [
   ⟨(some 8), none, .move (.c (.bool false))⟩])
 (.seq (.seq (.ops [
     ⟨(some 25), none, .callV (.c (.fn (.func 11) [] [])) []⟩,
     ⟨(some 26), none, .un .not (.t 25)⟩])
   (.cond (.t 26)
    (.seq (.ops [
       ⟨(some 8), none, .move (.c (.bool false))⟩])
     .ret)
    .skip))
  (.seq (.seq (.ops [
      ⟨(some 27), none, .move (.t 0)⟩,
      ⟨(some 28), none, .lenSl (.t 27)⟩,
      ⟨(some 29), none, .bin .gtr true 3 (.t 28) (.c (.i 30))⟩,
      ⟨(some 30), none, .move (.t 29)⟩,
      ⟨(some 31), (some (30, false)), .move (.t 1)⟩,
      ⟨(some 32), (some (30, false)), .bin .lss true 3 (.t 31) (.c (.i 0))⟩,
      ⟨(some 33), none, .pick (.t 30) (.c (.bool true)) (.t 32)⟩,
      ⟨(some 34), none, .move (.t 33)⟩,
      ⟨(some 35), (some (34, false)), .move (.t 1)⟩,
      ⟨(some 36), (some (34, false)), .bin .gtr true 3 (.t 35) (.c (.i 30))⟩,
      ⟨(some 37), none, .pick (.t 34) (.c (.bool true)) (.t 36)⟩,
      ⟨(some 38), none, .move (.t 37)⟩,
      ⟨(some 39), (some (38, false)), .move (.t 2)⟩,
      ⟨(some 40), (some (38, false)), .lenStr (.t 39)⟩,
      ⟨(some 41), (some (38, false)), .bin .gtr true 3 (.t 40) (.c (.i 240))⟩,
      ⟨(some 42), none, .pick (.t 38) (.c (.bool true)) (.t 41)⟩,
      ⟨(some 43), none, .move (.t 42)⟩,
      ⟨(some 44), (some (43, false)), .move (.t 3)⟩,
      ⟨(some 45), (some (43, false)), .callV (.c (.fn (.func 17) [] [])) [(.t 44), (.c (.i 10)), (.c (.i 30))]⟩,
      ⟨(some 46), (some (43, false)), .un .not (.t 45)⟩,
      ⟨(some 47), none, .pick (.t 43) (.c (.bool true)) (.t 46)⟩])
    (.cond (.t 47)
     (.seq (.ops [
        ⟨(some 8), none, .move (.c (.bool true))⟩])
      .ret)
     .skip))
   (.seq (.ops [
      ⟨(some 49), none, .move (.t 0)⟩,
      ⟨(some 50), none, .move (.t 1)⟩,
      ⟨(some 51), none, .callV (.c (.fn (.func 12) [] [])) [(.t 49), (.t 50)]⟩,
      ⟨(some 48), none, .move (.t 51)⟩,
      ⟨(some 52), none, .extract 0 (.t 48)⟩,
      ⟨(some 53), none, .extract 1 (.t 48)⟩,
      ⟨(some 9), none, .move (.t 52)⟩,
      ⟨(some 10), none, .move (.t 53)⟩])
    (.seq (.ops [
       ⟨(some 55), none, .move (.t 9)⟩,
       ⟨(some 56), none, .callV (.c (.fn (.func 14) [] [])) [(.t 55)]⟩,
       ⟨(some 54), none, .move (.t 56)⟩,
       ⟨(some 57), none, .extract 0 (.t 54)⟩,
       ⟨(some 58), none, .extract 1 (.t 54)⟩,
       ⟨(some 11), none, .move (.t 57)⟩,
       ⟨(some 12), none, .move (.t 58)⟩])
     (.seq (.seq (.ops [
         ⟨(some 59), none, .move (.t 10)⟩,
         ⟨(some 60), none, .bin .eql true 25 (.t 59) (.c (.i 0))⟩,
         ⟨(some 61), none, .move (.t 0)⟩,
         ⟨(some 62), none, .callV (.c (.fn (.func 18) [] [])) [(.t 61)]⟩,
         ⟨(some 63), none, .lenSl (.t 62)⟩,
         ⟨(some 64), none, .move (.t 1)⟩,
         ⟨(some 65), none, .bin .leq false 3 (.t 63) (.t 64)⟩,
         ⟨(some 66), none, .bin .neq false 4 (.t 60) (.t 65)⟩,
         ⟨(some 67), none, .move (.t 66)⟩,
         ⟨(some 68), (some (67, false)), .move (.t 10)⟩,
         ⟨(some 69), (some (67, false)), .bin .eql true 25 (.t 68) (.c (.i 0))⟩,
         ⟨(some 70), (some (67, false)), .move (.t 69)⟩,
         ⟨(some 71), (some (70, true)), .move (.t 9)⟩,
         ⟨(some 72), (some (70, true)), .lenStr (.t 71)⟩,
         ⟨(some 73), (some (70, true)), .move (.t 1)⟩,
         ⟨(some 74), (some (70, true)), .bin .mul true 3 (.c (.i 8)) (.t 73)⟩,
         ⟨(some 75), (some (70, true)), .bin .neq false 3 (.t 72) (.t 74)⟩,
         ⟨(some 76), (some (70, true)), .move (.t 75)⟩,
         ⟨(some 77), (some (76, false)), .move (.t 12)⟩,
         ⟨(some 78), (some (76, false)), .bin .neq true 25 (.t 77) (.c (.i 0))⟩,
         ⟨(some 79), (some (70, true)), .pick (.t 76) (.c (.bool true)) (.t 78)⟩,
         ⟨(some 80), (some (70, true)), .move (.t 79)⟩,
         ⟨(some 81), (some (80, false)), .move (.t 11)⟩,
         ⟨(some 82), (some (80, false)), .move (.t 0)⟩,
         ⟨(some 83), (some (80, false)), .callV (.c (.fn (.func 18) [] [])) [(.t 82)]⟩,
         ⟨(some 84), (some (80, false)), .callV (.c (.fn (.func 19) [] [])) [(.t 81), (.t 83)]⟩,
         ⟨(some 85), (some (80, false)), .un .not (.t 84)⟩,
         ⟨(some 86), (some (70, true)), .pick (.t 80) (.c (.bool true)) (.t 85)⟩,
         ⟨(some 87), (some (67, false)), .pick (.t 70) (.t 86) (.c (.bool false))⟩,
         ⟨(some 88), none, .pick (.t 67) (.c (.bool true)) (.t 87)⟩])
       (.cond (.t 88)
        (.seq (.ops [
           ⟨(some 8), none, .move (.c (.bool false))⟩])
         .ret)
        .skip))
      (.seq (.ops [
         ⟨(some 90), none, .move (.t 2)⟩,
         ⟨(some 91), none, .callV (.c (.fn (.func 14) [] [])) [(.t 90)]⟩,
         ⟨(some 89), none, .move (.t 91)⟩,
         ⟨(some 92), none, .extract 0 (.t 89)⟩,
         ⟨(some 93), none, .extract 1 (.t 89)⟩,
         ⟨(some 13), none, .move (.t 92)⟩,
         ⟨(some 14), none, .move (.t 93)⟩])
       (.seq (.seq (.ops [
           ⟨(some 94), none, .move (.t 2)⟩,
           ⟨(some 95), none, .lenStr (.t 94)⟩,
           ⟨(some 96), none, .bin .rem true 3 (.t 95) (.c (.i 8))⟩,
           ⟨(some 97), none, .bin .eql true 3 (.t 96) (.c (.i 0))⟩])
         (.cond (.t 97)
          (.seq (.ops [
             ⟨(some 99), none, .move (.t 13)⟩,
             ⟨(some 100), none, .move (.t 2)⟩,
             ⟨(some 101), none, .lenStr (.t 100)⟩,
             ⟨(some 102), none, .bin .quo true 3 (.t 101) (.c (.i 8))⟩,
             ⟨(some 103), none, .callV (.c (.fn (.func 12) [] [])) [(.t 99), (.t 102)]⟩,
             ⟨(some 98), none, .move (.t 103)⟩,
             ⟨(some 104), none, .extract 0 (.t 98)⟩,
             ⟨(some 105), none, .extract 1 (.t 98)⟩,
             ⟨(some 15), none, .move (.t 104)⟩,
             ⟨(some 16), none, .move (.t 105)⟩])
           (.seq (.ops [
              ⟨(some 106), none, .move (.t 14)⟩,
              ⟨(some 107), none, .bin .neq true 25 (.t 106) (.c (.i 0))⟩,
              ⟨(some 108), none, .move (.t 107)⟩,
              ⟨(some 109), (some (108, false)), .move (.t 16)⟩,
              ⟨(some 110), (some (108, false)), .bin .neq true 25 (.t 109) (.c (.i 0))⟩,
              ⟨(some 111), none, .pick (.t 108) (.c (.bool true)) (.t 110)⟩,
              ⟨(some 112), none, .move (.t 111)⟩,
              ⟨(some 113), (some (112, false)), .move (.t 15)⟩,
              ⟨(some 114), (some (112, false)), .move (.t 2)⟩,
              ⟨(some 115), (some (112, false)), .bin .neq false 9 (.t 113) (.t 114)⟩,
              ⟨(some 116), none, .pick (.t 112) (.c (.bool true)) (.t 115)⟩])
            (.cond (.t 116)
             (.seq (.ops [
                ⟨(some 8), none, .move (.c (.bool false))⟩])
              .ret)
             .skip)))
          (.seq (.ops [
             ⟨(some 117), none, .move (.t 14)⟩,
             ⟨(some 118), none, .bin .neq true 25 (.t 117) (.c (.i 2))⟩])
           (.cond (.t 118)
            (.seq (.ops [
               ⟨(some 8), none, .move (.c (.bool false))⟩])
             .ret)
            .skip))))
        (.seq (.ops [
           ⟨(some 17), none, .move (.c (.str []))⟩])
         (.seq (.seq (.ops [
             ⟨(some 18), none, .move (.c (.i 0))⟩])
           (.block 0 (.loop (.seq (.seq (.ops [
                 ⟨(some 119), none, .move (.t 18)⟩,
                 ⟨(some 120), none, .move (.t 3)⟩,
                 ⟨(some 121), none, .lenSl (.t 120)⟩,
                 ⟨(some 122), none, .bin .lss false 3 (.t 119) (.t 121)⟩])
               (.cond (.t 122)
                .skip
                (.exit 0)))
              (.seq (.block 1 (.seq (.ops [
                   ⟨(some 126), none, .move (.t 3)⟩,
                   ⟨(some 127), none, .move (.t 18)⟩,
                   ⟨(some 128), none, .ixAddr 1 (.t 126) (.t 127)⟩,
                   ⟨(some 129), none, .load1 (.t 128)⟩,
                   ⟨(some 130), none, .lenSl (.t 129)⟩,
                   ⟨(some 131), none, .cvInt .u64 (.t 130)⟩,
                   ⟨(some 132), none, .buildSl 1 1 [(.u 0)] [(0, 1, (.t 131))]⟩,
                   ⟨(some 133), none, .callV (.c (.fn (.func 12) [] [])) [(.t 132), (.c (.i 1))]⟩,
                   ⟨(some 125), none, .move (.t 133)⟩,
                   ⟨(some 134), none, .extract 0 (.t 125)⟩,
                   ⟨(some 135), none, .extract 1 (.t 125)⟩,
                   ⟨(some 19), none, .move (.t 134)⟩,
                   ⟨(some 20), none, .move (.t 135)⟩])
                 (.seq (.draw [
                    (⟨(some 137), none, .move (.t 3)⟩, []),
                    (⟨(some 138), none, .move (.t 18)⟩, []),
                    (⟨(some 139), none, .ixAddr 1 (.t 137) (.t 138)⟩, []),
                    (⟨(some 140), none, .load1 (.t 139)⟩, []),
                    (⟨(some 141), none, .move (.t 3)⟩, []),
                    (⟨(some 142), none, .move (.t 18)⟩, []),
                    (⟨(some 143), none, .ixAddr 1 (.t 141) (.t 142)⟩, []),
                    (⟨(some 144), none, .load1 (.t 143)⟩, []),
                    (⟨(some 145), none, .lenSl (.t 144)⟩, []),
                    (⟨(some 146), none, .callV (.c (.fn (.func 12) [] [])) [(.t 140), (.t 145)]⟩, []),
                    (⟨(some 136), none, .move (.t 146)⟩, []),
                    (⟨(some 147), none, .extract 0 (.t 136)⟩, []),
                    (⟨(some 148), none, .extract 1 (.t 136)⟩, []),
                    (⟨(some 21), none, .move (.t 147)⟩, []),
                    (⟨(some 22), none, .move (.t 148)⟩, [])])
                  (.ops [
                    ⟨(some 149), none, .move (.t 17)⟩,
                    ⟨(some 150), none, .move (.t 19)⟩,
                    ⟨(some 151), none, .bin .add false 9 (.t 149) (.t 150)⟩,
                    ⟨(some 152), none, .move (.t 21)⟩,
                    ⟨(some 153), none, .bin .add false 9 (.t 151) (.t 152)⟩,
                    ⟨(some 17), none, .move (.t 153)⟩]))))
               (.ops [
                 ⟨(some 123), none, .move (.t 18)⟩,
                 ⟨(some 124), none, .bin .add true 3 (.t 123) (.c (.i 1))⟩,
                 ⟨(some 18), none, .move (.t 124)⟩]))))))
          (.seq (.ops [
             ⟨(some 155), none, .move (.t 17)⟩,
             ⟨(some 156), none, .callV (.c (.fn (.func 20) [] [])) [(.t 155)]⟩,
             ⟨(some 154), none, .move (.t 156)⟩,
             ⟨(some 157), none, .extract 0 (.t 154)⟩,
             ⟨(some 158), none, .extract 1 (.t 154)⟩,
             ⟨(some 23), none, .move (.t 157)⟩,
             ⟨(some 24), none, .move (.t 158)⟩])
           (.seq (.ops [
              ⟨(some 159), none, .move (.t 24)⟩,
              ⟨(some 160), none, .bin .eql true 25 (.t 159) (.c (.i 0))⟩,
              ⟨(some 161), none, .move (.t 160)⟩,
              ⟨(some 162), (some (161, true)), .move (.t 23)⟩,
              ⟨(some 163), (some (161, true)), .move (.t 3)⟩,
              ⟨(some 164), (some (161, true)), .callV (.c (.fn (.func 21) [] [])) [(.t 162), (.t 163)]⟩,
              ⟨(some 165), none, .pick (.t 161) (.t 164) (.c (.bool false))⟩,
              ⟨(some 8), none, .move (.t 165)⟩])
            .ret))))))))))))
theorem r_law27_MarshalBack : resFn Try.prog 4 = some ⟨166, c_law27_MarshalBack.r, [.tmp 8]⟩ := by kernel_rfl
theorem k_law27_MarshalBack : c_law27_MarshalBack.ok = true := by kernel_rfl



theorem bytes_258 : bytesUs [258] = [2, 1, 0, 0, 0, 0, 0, 0] := by
  simp only [bytesUs, bytesN, uB_eq, shrU_eq]
  decide
theorem law27_lives_ok : FnS Try.prog 11 [] (.bool true) [] := by
  refine FnS.val rfl (call_body r_law27_lives k_law27_lives (by simp) ?_)
  have h1 : fitE [258] 1 = 0 := fitE_own (a := [258]) (by decide)
  have h2 : fitR [258] 1 = [258] := fitR_own (a := [258]) (by decide)
  simp [c_law27_lives]
  refine CallL_F (marshal_Bytes_ok [258] 1 (by decide)) (by simp) ?_
  simp [h1, h2, bytes_258]

theorem eqb (a b : Bool) : eqA Try.prog false 4 (.bool a) (.bool b) = some (a == b) := by cases a <;> cases b <;> kernel_rfl
/-- What Bytes and Nat tell of a natural. -/
theorem back_nat (a : List UInt64) (n : Int) (h0 : 0 ≤ n) (h30 : n ≤ 30) : ∃ (t : List UInt8) (e : Int) (w : List UInt64), bytesUs (fitR a n) = t ∧ fitE a n = e ∧ natE t = 0 ∧ natR t = w ∧ t.length ≤ 240 ∧
    ((e = 0 ∧ ((toL (val a)).length : Int) ≤ n ∧ (t.length : Int) = 8 * n ∧ toL (val a) = w) ∨ (e = 3 ∧ ¬ ((toL (val a)).length : Int) ≤ n)) := by
  by_cases h : ((toL (val a)).length : Int) ≤ n
  · have he : fitE a n = 0 := by unfold fitE; rw [if_neg (by omega), if_neg (by omega)]
    have hf : fitR a n = toL (val a) ++ List.replicate (n.toNat - (toL (val a)).length) 0 := by unfold fitR; rw [if_pos he]
    have hfl : (fitR a n).length = n.toNat := by rw [hf]; simp; omega
    have hb := bytesUs_length (fitR a n)
    refine ⟨_, _, _, rfl, rfl, ?_, rfl, by omega, .inl ⟨he, h, by omega, ?_⟩⟩
    · simp only [natE]; rw [if_neg (by omega), if_neg (by omega)]
    · simp only [natR]
      rw [if_neg (by omega), show (bytesUs (fitR a n)).length / 8 = (fitR a n).length by omega, words_bytes _ _ (Nat.le_refl _), List.take_length, hf, val_append, val_rep0, val_toL]
      simp
  · have he : fitE a n = 3 := by unfold fitE; rw [if_neg (by omega), if_pos (by omega)]
    have hf : fitR a n = [] := by unfold fitR; rw [if_neg (by omega)]
    exact ⟨_, _, _, rfl, rfl, by rw [hf]; simp [bytesUs, natE], rfl, by rw [hf]; simp [bytesUs], .inr ⟨he, h⟩⟩
/-- What Nat and Bytes tell of bytes. -/
theorem back_bytes (s : List UInt8) (m : Nat) (hs : s.length = 8 * m) (hm : m ≤ 30) : natE s = 0 ∧ fitE (natR s) m = 0 ∧ bytesUs (fitR (natR s) m) = s ∧ (natR s).length ≤ 30 := by
  have h2 : natR s = toL (val (wordsN s m)) := by
    simp only [natR]; rw [if_neg (by omega), show s.length / 8 = m by omega]
  have hl : (wordsN s m).length = m := wordsN_length s m
  have hv := toL_length_val (wordsN s m)
  have he : fitE (natR s) m = 0 := by rw [h2]; unfold fitE; rw [val_toL, if_neg (by omega), if_neg (by omega)]
  refine ⟨by simp only [natE]; rw [if_neg (by omega), if_neg (by omega)], he, ?_, by rw [h2]; omega⟩
  unfold fitR
  rw [if_pos he, h2, val_toL, show ((m : Int).toNat - (toL (val (wordsN s m))).length) = (wordsN s m).length - (toL (val (wordsN s m))).length by omega, toL_fit, bytesUs_words s m hs m (Nat.le_refl _), List.take_of_length_le (by omega)]

theorem law27_MarshalBack_run (a : List UInt64) (n : Int) (s : List UInt8) (l : List (List UInt64)) (_ : a.length ≤ 9223372036854775807) (_ : -9223372036854775808 ≤ n ∧ n < 9223372036854775808) (_ : s.length ≤ 9223372036854775807) (hl : l.length ≤ 9223372036854775807) : CallL Try.prog (.fn 4) [LU a, .i n, .str s, LN l] [] fun v _ => v = .bool true := by
  refine call_body r_law27_MarshalBack k_law27_MarshalBack (by simp) ?_
  rw [c_law27_MarshalBack, wp_assoc, wp_assoc, wp_assoc, wp_assoc, wp_assoc]
  refine wp_cut (fun ρ D G => lk ρ 2 = .str s ∧ lk ρ 3 = LN l ∧ D = [] ∧ s.length ≤ 240 ∧ l.length ≤ 10 ∧ ∀ x ∈ l, x.length ≤ 30) (fun Nx hNx => ?_) (fun ρ D G hΦ => ?_)
  · simp
    refine CallL_F law27_lives_ok (by simp) ?_
    by_cases g1 : 30 < a.length
    · have g1i : (30 : Int) < a.length := by omega
      simp [g1i]
    by_cases g2 : n < 0
    · have g1i : ¬ (30 : Int) < a.length := by omega
      simp [g1i, g2]
    by_cases g3 : 30 < n
    · have g1i : ¬ (30 : Int) < a.length := by omega
      simp [g1i, g2, g3]
    by_cases g4 : 240 < s.length
    · have g1i : ¬ (30 : Int) < a.length := by omega
      have g4i : (240 : Int) < s.length := by omega
      simp [g1i, g2, g3, g4i]
    have g1i : ¬ (30 : Int) < a.length := by omega
    have g4i : ¬ (240 : Int) < s.length := by omega
    simp [g1i, g2, g3, g4i]
    refine CallL_F (kit_LightNats_ok l 10 30 (by omega)) (by simp) ?_
    by_cases g5 : ((l.length : Int) ≤ 10 ∧ ∀ x ∈ l, (x.length : Int) ≤ 30)
    rotate_left
    · rw [decide_eq_false g5]; simp
    have hl10 : l.length ≤ 10 := by have := g5.1; omega
    have hl30 : ∀ x ∈ l, x.length ≤ 30 := fun x hx => by have := g5.2 x hx; omega
    rw [decide_eq_true g5]
    simp
    refine CallL_F (marshal_Bytes_ok a n (by omega)) (by simp) ?_
    simp
    obtain ⟨t, e, w, q1, q2, q3, q4, q5, q6⟩ := back_nat a n (by omega) (by omega)
    rw [q1, q2]
    have hc := marshal_Nat_ok t (by omega)
    rw [q3, q4] at hc
    refine CallL_F hc (by simp) ?_
    simp [RU]
    refine CallL_F (ref02_Trim_ok a (by omega)) (by simp) ?_
    rcases q6 with ⟨rfl, h1, h2, rfl⟩ | ⟨rfl, h1⟩
    · simp [RU, h1, h2, eqb]
      refine ⟨by omega, ?_⟩
      refine CallL_F (ref02_Trim_ok a (by omega)) (by simp) ?_
      simp [RU]
      refine CallL_F (kit_Same_ok (toL (val a)) (toL (val a)) (by have := toL_length_val a; omega)) (by simp) ?_
      simp
      exact hNx _ _ _ ⟨by simp, by simp, rfl, by omega, hl10, hl30⟩
    · simp [RU, h1, eqb]
      exact hNx _ _ _ ⟨by simp, by simp, rfl, by omega, hl10, hl30⟩
  obtain ⟨e2, e3, rfl, hs, hl10, hl30⟩ := hΦ
  rw [wp_assoc]
  refine wp_cut (fun ρ D G => lk ρ 3 = LN l ∧ D = []) (fun Nx hNx => ?_) (fun ρ D G hΦ => ?_)
  · simp [e2]
    refine CallL_F (marshal_Nat_ok s (by omega)) (by simp) ?_
    have hm : (s.length : Int).tmod 8 = (s.length : Int) % 8 := Int.tmod_eq_emod_of_nonneg (by omega)
    have hq : (s.length : Int).tdiv 8 = (s.length / 8 : Nat) := by rw [Int.tdiv_eq_ediv_of_nonneg (by omega)]; omega
    by_cases h0 : s.length % 8 = 0
    · have h0i : (s.length : Int) % 8 = 0 := by omega
      obtain ⟨b1, b2, b3, b4⟩ := back_bytes s (s.length / 8) (by omega) (by omega)
      simp [RU, b1, hm, h0i, e2]
      refine ⟨by omega, ?_⟩
      rw [show (s.length : Int) / 8 = (s.length / 8 : Nat) by omega]
      refine CallL_F (marshal_Bytes_ok (natR s) (s.length / 8 : Nat) (by omega)) (by simp) ?_
      rw [b2, b3]
      simp [e2]
      exact hNx _ _ _ ⟨by simp [e3], rfl⟩
    · have h0n : ¬ (s.length : Int) % 8 = 0 := by omega
      have e : natE s = 2 := by simp [natE, h0]
      simp [RU, e, hm, h0n, e2]
      exact hNx _ _ _ ⟨by simp [e3], rfl⟩
  obtain ⟨e3, rfl⟩ := hΦ
  simp
  refine loop_nx (fun ρ D G N => ∃ i : Nat, D = [] ∧ N + i = l.length ∧ lk ρ 3 = LN l ∧ lk ρ 18 = .i i ∧ lk ρ 17 = .str (encRow (l.take i))) (N := l.length) ⟨0, by simp [e3, encRow]⟩ ?_
  rintro N ρ D G ⟨i, rfl, hN, h3, h18, h17⟩ Nx hNx
  by_cases hz : N = 0
  · have hi : i = l.length := by omega
    subst hi
    rw [List.take_length] at h17
    simp [h3, h18, h17]
    refine CallL_V (marshal_Row_ok l (by omega) (fun x hx => by have := hl30 x hx; omega)) (by simp) ?_
    simp [h3]
    refine CallL_F (kit_SameNats_ok (l.map fun x => toL (val x)) l (by simp; omega) (fun x hx => ?_) (fun x hx => by have := hl30 x hx; omega)) (by simp) ?_
    · obtain ⟨y, hy, rfl⟩ := List.mem_map.1 hx
      have := hl30 y hy
      have := toL_length_val y
      omega
    simp [Function.comp_def, val_toL]
  · have hi : i < l.length := by omega
    obtain ⟨x, hxe⟩ : ∃ x, l[i] = x := ⟨_, rfl⟩
    have hlx : x.length ≤ 30 := hl30 x (by rw [← hxe]; simp)
    simp [h3, h18, hi, hxe]
    have hu : iU (x.length : Int) = UInt64.ofNat x.length := u_eq_of (iU_nat (by omega))
    have f1 := fitE_own (a := [UInt64.ofNat x.length]) (by simp)
    have f2 := fitR_own (a := [UInt64.ofNat x.length]) (by simp)
    refine CallL_F (marshal_Bytes_ok [UInt64.ofNat x.length] 1 (by simp)) (bors2 (RowAt.bor (l := [UInt64.ofNat x.length]) (.inr ⟨_, 0, 0, rfl, by simp [hu]⟩)) (by simp)) ?_
    simp at f1 f2
    rw [f1, f2]
    simp [h3, h18, hi, hxe]
    refine CallL_F (marshal_Bytes_ok x x.length (by omega)) (by simp) ?_
    rw [fitE_own (by omega), fitR_own (by omega)]
    have t1 := encRow_length (l.take i) (m := 100) (fun y hy => by have := hl30 y (List.mem_of_mem_take hy); omega)
    have t2 : (l.take i).length ≤ 10 := by simp; omega
    have t3 := bytesN_length (UInt64.ofNat x.length) 8
    have t4 := bytesUs_length x
    simp [h3, h18, h17, bytesUs, t3]
    refine ⟨by omega, by omega, by omega, hNx _ _ _ ⟨N - 1, by omega, i + 1, rfl, by omega, by simp [h3], by simp, ?_⟩⟩
    rw [List.take_succ_eq_append_getElem hi, hxe, encRow_append]
    simp [encRow]
end Go.Proofs.Ytlfffpmdofacjaa
