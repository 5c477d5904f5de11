/- BuffersSpans, walked. -/
import Derived.Test.YtknbplplhbfggaaFnBs
import Derived.Test.YtknbplplhbfggaaFnL25
import Derived.Test.YtknbplplhbfggaaSvG4
namespace Go.Proofs.Ytknbplplhbfggaa
open Go.Sv
set_option linter.unusedSimpArgs false
set_option maxRecDepth 10000

def c_kit_Pick : LC :=
 (.seq (.ops [
   ⟨(some 4), none, .move (.c (.i 0))⟩])
 (.seq (.seq (.ops [
     ⟨(some 6), none, .move (.t 1)⟩,
     ⟨(some 7), none, .bin .lss true 3 (.t 6) (.c (.i 1))⟩])
   (.cond (.t 7)
    (.seq (.ops [
       ⟨(some 4), none, .move (.c (.i 0))⟩])
     .ret)
    .skip))
  (.seq (.ops [
     ⟨(some 8), none, .move (.t 0)⟩,
     ⟨(some 9), none, .move (.t 1)⟩,
     ⟨(some 10), none, .bin .rem false 3 (.t 8) (.t 9)⟩,
     ⟨(some 5), none, .move (.t 10)⟩])
   (.seq (.seq (.ops [
       ⟨(some 11), none, .move (.t 5)⟩,
       ⟨(some 12), none, .bin .lss true 3 (.t 11) (.c (.i 0))⟩])
     (.cond (.t 12)
      (.ops [
        ⟨(some 13), none, .move (.t 5)⟩,
        ⟨(some 14), none, .move (.t 1)⟩,
        ⟨(some 15), none, .bin .add false 3 (.t 13) (.t 14)⟩,
        ⟨(some 5), none, .move (.t 15)⟩])
      .skip))
    (.seq (.ops [
       ⟨(some 16), none, .move (.t 5)⟩,
       ⟨(some 4), none, .move (.t 16)⟩])
     .ret)))))
theorem r_kit_Pick : resFn Try.prog 10 = some ⟨17, c_kit_Pick.r, [.tmp 4]⟩ := by kernel_rfl
theorem k_kit_Pick : c_kit_Pick.ok = true := by kernel_rfl

def c_law25_light : LC :=
 (.seq (.ops [
   ⟨(some 1), none, .box (.t 0)⟩,
   ⟨(some 2), none, .move (.c (.bool false))⟩])
 (.seq (.ops [
    ⟨(some 3), none, .loadN 3 (.t 1)⟩,
    ⟨(some 4), none, .callV (.c (.fn (.func 17) [] [])) [(.t 3), (.c (.i 40)), (.c (.i 1048576)), (.c (.i 80))]⟩,
    ⟨(some 2), none, .move (.t 4)⟩])
  .ret))
theorem r_law25_light : resFn Try.prog 6 = some ⟨5, c_law25_light.r, [.tmp 2]⟩ := by kernel_rfl
theorem k_law25_light : c_law25_light.ok = true := by kernel_rfl

def c_law25_BuffersSpans : LC :=
 (.seq (.ops [
   ⟨(some 2), none, .box (.t 0)⟩,
   ⟨(some 4), none, .move (.c (.bool false))⟩])
 (.seq (.seq (.ops [
     ⟨(some 10), none, .callV (.c (.fn (.func 5) [] [])) []⟩,
     ⟨(some 11), none, .un .not (.t 10)⟩])
   (.cond (.t 11)
    (.seq (.ops [
       ⟨(some 4), none, .move (.c (.bool false))⟩])
     .ret)
    .skip))
  (.seq (.seq (.ops [
      ⟨(some 12), none, .loadN 3 (.t 2)⟩,
      ⟨(some 13), none, .callV (.c (.fn (.func 6) [] [])) [(.t 12)]⟩,
      ⟨(some 14), none, .un .not (.t 13)⟩,
      ⟨(some 15), none, .move (.t 14)⟩,
      ⟨(some 16), (some (15, false)), .loadN 3 (.t 2)⟩,
      ⟨(some 17), (some (15, false)), .callV (.c (.fn (.func 7) [] [])) [(.t 16)]⟩,
      ⟨(some 18), (some (15, false)), .bin .neq true 28 (.t 17) (.c (.i 0))⟩,
      ⟨(some 19), none, .pick (.t 15) (.c (.bool true)) (.t 18)⟩])
    (.cond (.t 19)
     (.seq (.ops [
        ⟨(some 4), none, .move (.c (.bool true))⟩])
      .ret)
     .skip))
   (.seq (.draw [
      (⟨(some 20), none, .loadN 3 (.t 2)⟩, []),
      (⟨(some 22), none, .loadN 3 (.t 2)⟩, []),
      (⟨(some 21), none, .callV (.c (.fn (.func 8) [] [])) [(.t 20)]⟩, [(⟨(some 22), none, .loadN 3 (.t 2)⟩, false)]),
      (⟨(some 23), none, .callV (.c (.fn (.func 9) [] [])) [(.t 22)]⟩, []),
      (⟨(some 5), none, .move (.t 21)⟩, []),
      (⟨(some 6), none, .move (.t 23)⟩, [])])
    (.seq (.seq (.ops [
        ⟨(some 24), none, .move (.t 5)⟩,
        ⟨(some 25), none, .lenSl (.t 24)⟩,
        ⟨(some 26), none, .fieldAddr 0 (.t 2)⟩,
        ⟨(some 27), none, .load1 (.t 26)⟩,
        ⟨(some 28), none, .lenSl (.t 27)⟩,
        ⟨(some 29), none, .bin .neq false 3 (.t 25) (.t 28)⟩])
      (.cond (.t 29)
       (.seq (.ops [
          ⟨(some 4), none, .move (.c (.bool false))⟩])
        .ret)
       .skip))
     (.seq (.ops [
        ⟨(some 30), none, .move (.t 1)⟩,
        ⟨(some 31), none, .fieldAddr 0 (.t 2)⟩,
        ⟨(some 32), none, .load1 (.t 31)⟩,
        ⟨(some 33), none, .lenSl (.t 32)⟩,
        ⟨(some 34), none, .callV (.c (.fn (.func 10) [] [])) [(.t 30), (.t 33)]⟩,
        ⟨(some 1), none, .move (.t 34)⟩])
      (.seq (.seq (.ops [
          ⟨(some 35), none, .fieldAddr 0 (.t 2)⟩,
          ⟨(some 36), none, .load1 (.t 35)⟩,
          ⟨(some 37), none, .move (.t 1)⟩,
          ⟨(some 38), none, .ixAddr 3 (.t 36) (.t 37)⟩,
          ⟨(some 39), none, .fieldAddr 2 (.t 38)⟩,
          ⟨(some 40), none, .load1 (.t 39)⟩,
          ⟨(some 41), none, .bin .gtr true 3 (.t 40) (.c (.i 0))⟩])
        (.cond (.t 41)
         (.seq (.draw [
            (⟨(some 42), none, .move (.t 5)⟩, []),
            (⟨(some 43), none, .move (.t 1)⟩, []),
            (⟨(some 44), none, .ixAddr 2 (.t 42) (.t 43)⟩, []),
            (⟨(some 45), none, .loadN 2 (.t 44)⟩, []),
            (⟨(some 46), none, .fieldAddr 1 (.t 2)⟩, []),
            (⟨(some 47), none, .load1 (.t 46)⟩, []),
            (⟨(some 48), none, .lenSl (.t 47)⟩, []),
            (⟨(some 49), none, .build [(.i 0), (.i 0)] [(0, 1, (.c (.i 0))), (1, 1, (.t 48))]⟩, []),
            (⟨(some 50), none, .bin .eql false 37 (.t 45) (.t 49)⟩, []),
            (⟨(some 4), none, .move (.t 50)⟩, [])])
          .ret)
         .skip))
       (.seq (.ops [
          ⟨(some 7), none, .move (.c (.bool false))⟩])
        (.seq (.seq (.ops [
            ⟨(some 8), none, .move (.c (.i 0))⟩])
          (.block 0 (.loop (.seq (.seq (.ops [
                ⟨(some 51), none, .move (.t 8)⟩,
                ⟨(some 52), none, .fieldAddr 1 (.t 2)⟩,
                ⟨(some 53), none, .load1 (.t 52)⟩,
                ⟨(some 54), none, .lenSl (.t 53)⟩,
                ⟨(some 55), none, .bin .lss false 3 (.t 51) (.t 54)⟩])
              (.cond (.t 55)
               .skip
               (.exit 0)))
             (.seq (.block 1 (.seq (.ops [
                  ⟨(some 58), none, .fieldAddr 1 (.t 2)⟩,
                  ⟨(some 59), none, .load1 (.t 58)⟩,
                  ⟨(some 60), none, .move (.t 8)⟩,
                  ⟨(some 61), none, .ixAddr 7 (.t 59) (.t 60)⟩,
                  ⟨(some 62), none, .loadN 7 (.t 61)⟩,
                  ⟨(some 9), none, .alloc [(.i 0), (.i 0), (.i 0), (.i 0), (.i 0), (.i 0), (.u 0)]⟩,
                  ⟨none, none, .store 7 (.t 9) (.t 62)⟩])
                (.seq (.seq (.ops [
                    ⟨(some 63), none, .fieldAddr 1 (.t 9)⟩,
                    ⟨(some 64), none, .load1 (.t 63)⟩,
                    ⟨(some 65), none, .move (.t 1)⟩,
                    ⟨(some 66), none, .bin .eql false 3 (.t 64) (.t 65)⟩,
                    ⟨(some 67), none, .move (.t 66)⟩,
                    ⟨(some 68), (some (67, false)), .fieldAddr 2 (.t 9)⟩,
                    ⟨(some 69), (some (67, false)), .load1 (.t 68)⟩,
                    ⟨(some 70), (some (67, false)), .move (.t 1)⟩,
                    ⟨(some 71), (some (67, false)), .bin .eql false 3 (.t 69) (.t 70)⟩,
                    ⟨(some 72), none, .pick (.t 67) (.c (.bool true)) (.t 71)⟩,
                    ⟨(some 73), none, .move (.t 72)⟩,
                    ⟨(some 74), (some (73, false)), .fieldAddr 3 (.t 9)⟩,
                    ⟨(some 75), (some (73, false)), .load1 (.t 74)⟩,
                    ⟨(some 76), (some (73, false)), .move (.t 1)⟩,
                    ⟨(some 77), (some (73, false)), .bin .eql false 3 (.t 75) (.t 76)⟩,
                    ⟨(some 78), none, .pick (.t 73) (.c (.bool true)) (.t 77)⟩,
                    ⟨(some 79), none, .move (.t 78)⟩,
                    ⟨(some 80), (some (79, false)), .fieldAddr 4 (.t 9)⟩,
                    ⟨(some 81), (some (79, false)), .load1 (.t 80)⟩,
                    ⟨(some 82), (some (79, false)), .move (.t 1)⟩,
                    ⟨(some 83), (some (79, false)), .bin .eql false 3 (.t 81) (.t 82)⟩,
                    ⟨(some 84), none, .pick (.t 79) (.c (.bool true)) (.t 83)⟩,
                    ⟨(some 85), none, .move (.t 84)⟩,
                    ⟨(some 86), (some (85, false)), .fieldAddr 5 (.t 9)⟩,
                    ⟨(some 87), (some (85, false)), .load1 (.t 86)⟩,
                    ⟨(some 88), (some (85, false)), .move (.t 1)⟩,
                    ⟨(some 89), (some (85, false)), .bin .eql false 3 (.t 87) (.t 88)⟩,
                    ⟨(some 90), none, .pick (.t 85) (.c (.bool true)) (.t 89)⟩])
                  (.cond (.t 90)
                   (.seq (.ops [
                      ⟨(some 7), none, .move (.c (.bool true))⟩])
                    (.seq (.ops [
                       ⟨(some 91), none, .move (.t 5)⟩,
                       ⟨(some 92), none, .move (.t 1)⟩,
                       ⟨(some 93), none, .ixAddr 2 (.t 91) (.t 92)⟩,
                       ⟨(some 94), none, .ixAddrArr 2 1 (.t 93) (.c (.i 0))⟩,
                       ⟨(some 95), none, .load1 (.t 94)⟩,
                       ⟨(some 96), none, .move (.t 8)⟩,
                       ⟨(some 97), none, .bin .gtr false 3 (.t 95) (.t 96)⟩,
                       ⟨(some 98), none, .move (.t 97)⟩,
                       ⟨(some 99), (some (98, false)), .move (.t 5)⟩,
                       ⟨(some 100), (some (98, false)), .move (.t 1)⟩,
                       ⟨(some 101), (some (98, false)), .ixAddr 2 (.t 99) (.t 100)⟩,
                       ⟨(some 102), (some (98, false)), .ixAddrArr 2 1 (.t 101) (.c (.i 1))⟩,
                       ⟨(some 103), (some (98, false)), .load1 (.t 102)⟩,
                       ⟨(some 104), (some (98, false)), .move (.t 8)⟩,
                       ⟨(some 105), (some (98, false)), .bin .lss false 3 (.t 103) (.t 104)⟩,
                       ⟨(some 106), none, .pick (.t 98) (.c (.bool true)) (.t 105)⟩])
                     (.cond (.t 106)
                      (.seq (.ops [
                         ⟨(some 4), none, .move (.c (.bool false))⟩])
                       .ret)
                      .skip)))
                   .skip))
                 (.seq (.draw [
                    (⟨(some 107), none, .fieldAddr 0 (.t 9)⟩, []),
                    (⟨(some 108), none, .load1 (.t 107)⟩, []),
                    (⟨(some 109), none, .bin .eql true 3 (.t 108) (.c (.i 15))⟩, []),
                    (⟨(some 110), none, .move (.t 109)⟩, []),
                    (⟨(some 111), (some (110, true)), .move (.t 5)⟩, []),
                    (⟨(some 112), (some (110, true)), .move (.t 1)⟩, []),
                    (⟨(some 113), (some (110, true)), .ixAddr 2 (.t 111) (.t 112)⟩, []),
                    (⟨(some 114), (some (110, true)), .ixAddrArr 2 1 (.t 113) (.c (.i 0))⟩, []),
                    (⟨(some 115), (some (110, true)), .load1 (.t 114)⟩, []),
                    (⟨(some 116), (some (110, true)), .bin .geq true 3 (.t 115) (.c (.i 0))⟩, []),
                    (⟨(some 117), none, .pick (.t 110) (.t 116) (.c (.bool false))⟩, []),
                    (⟨(some 118), none, .move (.t 117)⟩, []),
                    (⟨(some 119), (some (118, true)), .move (.t 5)⟩, []),
                    (⟨(some 120), (some (118, true)), .move (.t 1)⟩, []),
                    (⟨(some 121), (some (118, true)), .ixAddr 2 (.t 119) (.t 120)⟩, []),
                    (⟨(some 122), (some (118, true)), .ixAddrArr 2 1 (.t 121) (.c (.i 0))⟩, []),
                    (⟨(some 123), (some (118, true)), .load1 (.t 122)⟩, []),
                    (⟨(some 124), (some (118, true)), .move (.t 6)⟩, []),
                    (⟨(some 125), (some (118, true)), .move (.t 8)⟩, []),
                    (⟨(some 126), (some (118, true)), .ixAddr 1 (.t 124) (.t 125)⟩, []),
                    (⟨(some 127), (some (118, true)), .load1 (.t 126)⟩, []),
                    (⟨(some 128), (some (118, true)), .bin .lss false 3 (.t 123) (.t 127)⟩, []),
                    (⟨(some 129), none, .pick (.t 118) (.t 128) (.c (.bool false))⟩, []),
                    (⟨(some 130), none, .move (.t 129)⟩, []),
                    (⟨(some 131), (some (130, true)), .move (.t 5)⟩, []),
                    (⟨(some 132), (some (130, true)), .move (.t 1)⟩, []),
                    (⟨(some 133), (some (130, true)), .ixAddr 2 (.t 131) (.t 132)⟩, []),
                    (⟨(some 134), (some (130, true)), .ixAddrArr 2 1 (.t 133) (.c (.i 1))⟩, []),
                    (⟨(some 135), (some (130, true)), .load1 (.t 134)⟩, []),
                    (⟨(some 136), (some (130, true)), .move (.t 8)⟩, []),
                    (⟨(some 137), (some (130, true)), .bin .gtr false 3 (.t 135) (.t 136)⟩, []),
                    (⟨(some 138), none, .pick (.t 130) (.t 137) (.c (.bool false))⟩, []),
                    (⟨(some 139), none, .move (.t 138)⟩, []),
                    (⟨(some 140), (some (139, true)), .move (.t 5)⟩, []),
                    (⟨(some 141), (some (139, true)), .move (.t 1)⟩, []),
                    (⟨(some 142), (some (139, true)), .ixAddr 2 (.t 140) (.t 141)⟩, []),
                    (⟨(some 143), (some (139, true)), .ixAddrArr 2 1 (.t 142) (.c (.i 0))⟩, []),
                    (⟨(some 144), (some (139, true)), .load1 (.t 143)⟩, []),
                    (⟨(some 145), (some (139, true)), .move (.t 8)⟩, []),
                    (⟨(some 146), (some (139, true)), .bin .gtr false 3 (.t 144) (.t 145)⟩, []),
                    (⟨(some 147), (some (139, true)), .move (.t 146)⟩, []),
                    (⟨(some 148), (some (147, false)), .move (.t 5)⟩, []),
                    (⟨(some 149), (some (147, false)), .move (.t 1)⟩, []),
                    (⟨(some 150), (some (147, false)), .ixAddr 2 (.t 148) (.t 149)⟩, []),
                    (⟨(some 151), (some (147, false)), .ixAddrArr 2 1 (.t 150) (.c (.i 1))⟩, []),
                    (⟨(some 152), (some (147, false)), .load1 (.t 151)⟩, []),
                    (⟨(some 153), (some (147, false)), .move (.t 6)⟩, []),
                    (⟨(some 154), (some (147, false)), .move (.t 8)⟩, []),
                    (⟨(some 155), (some (147, false)), .ixAddr 1 (.t 153) (.t 154)⟩, []),
                    (⟨(some 156), (some (147, false)), .load1 (.t 155)⟩, []),
                    (⟨(some 157), (some (147, false)), .bin .lss false 3 (.t 152) (.t 156)⟩, []),
                    (⟨(some 158), (some (139, true)), .pick (.t 147) (.c (.bool true)) (.t 157)⟩, []),
                    (⟨(some 159), none, .pick (.t 139) (.t 158) (.c (.bool false))⟩, [])])
                  (.cond (.t 159)
                   (.seq (.ops [
                      ⟨(some 4), none, .move (.c (.bool false))⟩])
                    .ret)
                   .skip)))))
              (.ops [
                ⟨(some 56), none, .move (.t 8)⟩,
                ⟨(some 57), none, .bin .add true 3 (.t 56) (.c (.i 1))⟩,
                ⟨(some 8), none, .move (.t 57)⟩]))))))
         (.seq (.ops [
            ⟨(some 160), none, .move (.t 7)⟩,
            ⟨(some 161), none, .move (.t 5)⟩,
            ⟨(some 162), none, .move (.t 1)⟩,
            ⟨(some 163), none, .ixAddr 2 (.t 161) (.t 162)⟩,
            ⟨(some 164), none, .ixAddrArr 2 1 (.t 163) (.c (.i 0))⟩,
            ⟨(some 165), none, .load1 (.t 164)⟩,
            ⟨(some 166), none, .bin .geq true 3 (.t 165) (.c (.i 0))⟩,
            ⟨(some 167), none, .bin .eql false 4 (.t 160) (.t 166)⟩,
            ⟨(some 168), none, .move (.t 167)⟩,
            ⟨(some 169), (some (168, true)), .move (.t 7)⟩,
            ⟨(some 170), (some (168, true)), .move (.t 5)⟩,
            ⟨(some 171), (some (168, true)), .move (.t 1)⟩,
            ⟨(some 172), (some (168, true)), .ixAddr 2 (.t 170) (.t 171)⟩,
            ⟨(some 173), (some (168, true)), .ixAddrArr 2 1 (.t 172) (.c (.i 1))⟩,
            ⟨(some 174), (some (168, true)), .load1 (.t 173)⟩,
            ⟨(some 175), (some (168, true)), .bin .geq true 3 (.t 174) (.c (.i 0))⟩,
            ⟨(some 176), (some (168, true)), .bin .eql false 4 (.t 169) (.t 175)⟩,
            ⟨(some 177), none, .pick (.t 168) (.t 176) (.c (.bool false))⟩,
            ⟨(some 4), none, .move (.t 177)⟩])
          .ret))))))))))
theorem r_law25_BuffersSpans : resFn Try.prog 3 = some ⟨178, c_law25_BuffersSpans.r, [.tmp 4]⟩ := by kernel_rfl
theorem k_law25_BuffersSpans : c_law25_BuffersSpans.ok = true := by kernel_rfl



theorem kit_Pick_ok (n m : Int) (hm : 1 ≤ m ∧ m < 1000000) : ∃ k : Nat, (k : Int) < m ∧ FnS Try.prog 10 [.i n, .i m] (.i k) [] := by
  have h1 : ¬ m < 1 := by omega
  have h0 : m ≠ 0 := by omega
  have hlo : n.tmod m < m := Int.tmod_lt_of_pos n (by omega)
  have hhi : -m < n.tmod m := by
    have h := Int.tmod_lt_of_pos (-n) (show 0 < m by omega)
    rw [Int.neg_tmod] at h
    omega
  by_cases hneg : n.tmod m < 0
  · obtain ⟨k, hk⟩ := Int.eq_ofNat_of_zero_le (show 0 ≤ n.tmod m + m by omega)
    refine ⟨k, by omega, FnS.val rfl (call_body r_kit_Pick k_kit_Pick (by simp) ?_)⟩
    simp [c_kit_Pick, h1, h0, hneg]
    omega
  · obtain ⟨k, hk⟩ := Int.eq_ofNat_of_zero_le (show 0 ≤ n.tmod m by omega)
    refine ⟨k, by omega, FnS.val rfl (call_body r_kit_Pick k_kit_Pick (by simp) ?_)⟩
    simp [c_kit_Pick, h1, h0, hneg, hk]
    omega
def lightB (vs : List Vr) (os rs : List Ko) : Bool := vs.all (fun v => decide (v.limbs ≤ 1048576)) && (decide ((vs.length : Int) ≤ 40) && (decide ((os.length : Int) ≤ 80) && decide ((rs.length : Int) ≤ 80)))
theorem law25_light_ok (vs : List Vr) (os rs : List Ko) (hl : vs.length ≤ 9223372036854775807) : FnS Try.prog 6 [.agg (kerC vs os rs)] (.bool (lightB vs os rs)) [] := by
  have hkd : dats (kerC vs os rs) = true := by simp [kerC, dats, LV.dat, vsC_dats, osC_dats]
  have hk3 : (kerC vs os rs).length = 3 := rfl
  have hkt : (kerC vs os rs).take 3 = kerC vs os rs := rfl
  refine FnS.val rfl (call_body r_law25_light k_law25_light (by simp) ?_)
  simp [c_law25_light, hk3, hkt]
  refine CallL_F (LightKern_ok vs os rs 40 1048576 80 hl) (bors_self _ (by simp [dats, LV.dat, hkd])) ?_
  simp [lightB]
theorem chk_tree {vs : List Vr} {os rs : List Ko} (hc : chkB vs os rs = true) : varsB vs = true ∧ os.length ≤ 4096 ∧ ∃ f : Fr Ko, f.wf kdK ∧ os = f.flat := by
  have h := hc
  unfold chkB at h
  simp only [Bool.and_eq_true, decide_eq_true_eq] at h
  refine ⟨h.1, h.2.1, ?_⟩
  have h2 := h.2.2.2.2
  split at h2
  · cases h2
  · rename_i m dp he
    simp only [Bool.and_eq_true, decide_eq_true_eq] at h2
    rw [h2.2] at he
    exact tree_of (ogo_bal os (startM vs) m 0 (by simpa using he))
/-- What structs are compared by. -/
noncomputable def resG : List (Option Bool) → Option Bool
  | [] => some true
  | o :: l => match o with
    | some true => resG l
    | some false => some false
    | none => none
theorem resG_some : ∀ l : List Bool, resG (l.map some) = some (l.all id)
  | [] => rfl
  | true :: l => by rw [List.map_cons, resG, resG_some l]; rfl
  | false :: l => rfl
theorem pairEq (a b c d : Int) : eqA Try.prog false 37 (.agg [.int .i64 a, .int .i64 b]) (.agg [.int .i64 c, .int .i64 d]) = resG [some (eqI a c), some (eqI b d)] := by kernel_rfl
theorem pairEq2 (a b c d : Int) : eqA Try.prog false 37 (.agg (toAs [.i a, .i b])) (.agg (toAs [.i c, .i d])) = some (decide (a = c) && decide (b = d)) := by
  have h := pairEq a b c d
  have e : [some (eqI a c), some (eqI b d)] = [eqI a c, eqI b d].map some := rfl
  rw [e, resG_some] at h
  refine Eq.trans h ?_
  simp only [eqI_spec, List.all_cons, List.all_nil, Bool.and_true, id]
  rfl
set_option maxHeartbeats 2000000 in
theorem law25_BuffersSpans_run (vs : List Vr) (os rs : List Ko) (v : Int) (hl1 : vs.length ≤ 9223372036854775807) (_ : os.length ≤ 9223372036854775807) (_ : rs.length ≤ 9223372036854775807) (_ : inI v) : CallL Try.prog (.fn 3) [.agg (kerC vs os rs), .i v] [] fun v _ => v = .bool true := by
  refine call_body r_law25_BuffersSpans k_law25_BuffersSpans (by simp) ?_
  have hkd : dats (kerC vs os rs) = true := by simp [kerC, dats, LV.dat, vsC_dats, osC_dats]
  have hk3 : (kerC vs os rs).length = 3 := rfl
  have hkt : (kerC vs os rs).take 3 = kerC vs os rs := rfl
  simp [c_law25_BuffersSpans]
  refine CallL_F law25_lives_ok (by simp) ?_
  simp [hk3, hkt]
  refine CallL_F (law25_light_ok vs os rs hl1) (bors_self _ (by simp [dats, LV.dat, hkd])) ?_
  cases lightB vs os rs with
  | false => simp
  | true =>
  simp [hk3, hkt]
  refine CallL_F (ref19_Check_ok vs os rs hl1) (bors_self _ (by simp [dats, LV.dat, hkd])) ?_
  cases hc : chkB vs os rs with
  | false => simp [chkE, hc]
  | true =>
  obtain ⟨hv, hos, f, hw, hf⟩ := chk_tree hc
  have hvl := varsB_len hv
  have hez : endsZ vs os rs = f.ends 0 := by rw [endsZ, if_pos hc, hf]; exact endsL_tree hw
  simp [chkE, hc, hk3, hkt]
  refine CallL_V (buffers_Live_ok hl1 hc hw hf) (by simp [dats, LV.dat, hkd]) ?_
  simp
  refine CallL_V (ref19_Ends_ok vs os rs hl1) (by simp [dats, LV.dat, hkd]) ?_
  rw [hez]
  have hel : (f.ends 0).length = os.length := by rw [Fr.ends_len, hf, Fr.flat_len]
  have hsl : (spansG os (f.tops 0) 0 vs).length = vs.length := spansG_len _ _ _ _
  simp [kerC, hsl]
  obtain ⟨k, hk, hpick⟩ := kit_Pick_ok v vs.length (by omega)
  refine CallL_F hpick (by simp) ?_
  have hkn : k < vs.length := by omega
  have q2 := vs_at2 (at_gv hkn)
  have hS : (spansG os (f.tops 0) 0 vs)[k]? = some (spanV os (f.tops 0) k (gv vs k)) := by rw [spansG_at os (f.tops 0) vs 0 k hkn, Nat.zero_add]
  have p0 := sp_at0 hS
  have p1 := sp_at1 hS
  have pp := sp_two hS
  have pl := sp_lt (show k < (spansG os (f.tops 0) 0 vs).length by omega)
  rw [spC_len, hsl] at pl
  have hsv : spanV os (f.tops 0) k (gv vs k) = if 0 < (gv vs k).mode then (0, (os.length : Int)) else wideG (spanG k 0 (-1, -1) os) (f.tops 0) := rfl
  have hlaw := span_law hw hf k (p := wideG (spanG k 0 (-1, -1) os) (f.tops 0)) rfl
  by_cases m0 : 0 < (gv vs k).mode
  · rw [if_pos m0] at hsv
    rw [hsv] at pp
    simp [hkn, nthL_at q2, m0, hsl, pp, spC_len]
    exact ⟨pl, _, rfl, rfl, pairEq2 _ _ _ _, by simp⟩
  rw [if_neg m0] at hsv
  rw [← hsv] at hlaw
  have hSl : (spC (spansG os (f.tops 0) 0 vs)).length = vs.length * 2 := by rw [spC_len, hsl]
  generalize spanV os (f.tops 0) k (gv vs k) = p at *
  generalize spansG os (f.tops 0) 0 vs = S at *
  obtain ⟨w1, w2, w3, w4⟩ := hlaw
  simp [hkn, nthL_at q2, m0]
  refine loop_nx (fun ρ D G N => ∃ i : Nat, D = [] ∧ N + i = os.length ∧ lk ρ 1 = .i k ∧ lk ρ 2 = .ptr 0 0 ∧ lk ρ 5 = .lst (spC S) vs.length 2 ∧ lk ρ 6 = .lst ((f.ends 0).map .i) (f.ends 0).length 1 ∧ lk ρ 7 = .bool ((os.take i).any fun o => hasB o k) ∧ lk ρ 8 = .i i ∧ 0 < G.length ∧ G[0]? = some (.cells (kerC vs os rs) 0)) (N := os.length) ⟨0, rfl, by omega, by simp, by simp, by simp, by simp, by simp, by simp, by simp, by simp [kerC]⟩ ?_
  rintro N ρ D G ⟨i, rfl, hN, h1, h2, h5, h6, h7, h8, hl, hG⟩ Nx hNx
  by_cases g : i < os.length
  · have q7 := os_seven (at_go g)
    have hqq := os_lt g
    have w1 := w1 i g
    have w2 := w2 i g
    have hin : hasB (go os i) k = true → 0 ≤ p.1 := fun h => by
      have : (os.any fun o => hasB o k) = true := List.any_eq_true.2 ⟨_, List.mem_of_getElem? (at_go g), h⟩
      rw [this] at w3
      exact of_decide_eq_true w3.symm
    have htk : ((os.take (i + 1)).any fun o => hasB o k) = (((os.take i).any fun o => hasB o k) || hasB (go os i) k) := by
      rw [List.take_succ_eq_append_getElem g, List.any_append]
      have := at_go g; rw [List.getElem?_eq_getElem g] at this
      rw [Option.some.inj this]; simp
    have qe : ((f.ends 0).map LV.i)[i]? = some (.i (gd (f.ends 0) i)) := map_at (at_getD (by omega))
    have ge : i < (f.ends 0).length := by omega
    have hf7 : (go os i).f = [.i (go os i).kind, .i (go os i).d, .i (go os i).e, .i (go os i).a, .i (go os i).b, .i (go os i).c, .u (go os i).imm] := rfl
    generalize go os i = o at *
    generalize gd (f.ends 0) i = e at *
    have next : ∀ ρ' G', lk ρ' 1 = .i k → lk ρ' 2 = .ptr 0 0 → lk ρ' 5 = .lst (spC S) vs.length 2 → lk ρ' 6 = .lst ((f.ends 0).map .i) (f.ends 0).length 1 → lk ρ' 7 = .bool ((os.take (i + 1)).any fun o => hasB o k) → lk ρ' 8 = .i ((i : Int) + 1) → 0 < G'.length → G'[0]? = some (.cells (kerC vs os rs) 0) → Nx ρ' [] G' := by
      intro ρ' G' a1 a2 a5 a6 a7 a8 b1 b2
      exact hNx _ _ _ ⟨N - 1, by omega, i + 1, rfl, by omega, a1, a2, a5, a6, a7, by rw [a8]; simp, b1, b2⟩
    have kl0 : k * 2 ≤ (spC S).length := by omega
    cases hh : hasB o k with
    | true =>
      have w1 := w1 hh
      have p0' := hin hh
      rw [hh, Bool.or_true] at htk
      have n1 : ¬ (i : Int) < p.1 := by omega
      have n2 : ¬ p.2 < (i : Int) := by omega
      have hp : (o.d = k ∧ True ∧ True ∧ True ∧ True) ∨ (o.d ≠ k ∧ o.e = k ∧ True ∧ True ∧ True) ∨ (o.d ≠ k ∧ o.e ≠ k ∧ o.a = k ∧ True ∧ True) ∨ (o.d ≠ k ∧ o.e ≠ k ∧ o.a ≠ k ∧ o.b = k ∧ True) ∨ (o.d ≠ k ∧ o.e ≠ k ∧ o.a ≠ k ∧ o.b ≠ k ∧ o.c = k) := by
        simp only [hasB, List.any_cons, List.any_nil, Bool.or_false, Bool.or_eq_true, decide_eq_true_eq] at hh
        by_cases y1 : o.d = k
        · exact .inl ⟨y1, trivial, trivial, trivial, trivial⟩
        by_cases y2 : o.e = k
        · exact .inr (.inl ⟨y1, y2, trivial, trivial, trivial⟩)
        by_cases y3 : o.a = k
        · exact .inr (.inr (.inl ⟨y1, y2, y3, trivial, trivial⟩))
        by_cases y4 : o.b = k
        · exact .inr (.inr (.inr (.inl ⟨y1, y2, y3, y4, trivial⟩)))
        by_cases y5 : o.c = k
        · exact .inr (.inr (.inr (.inr ⟨y1, y2, y3, y4, y5⟩)))
        · rcases hh with h | h | h | h | h
          · exact absurd h y1
          · exact absurd h y2
          · exact absurd h y3
          · exact absurd h y4
          · exact absurd h y5
      by_cases k15 : o.kind = 15
      · have w2 := w2 k15 p0'
        by_cases c1 : p.1 < e
        · by_cases c2 : (i : Int) < p.2
          · have w2 := w2 c1 c2
            have n3 : ¬ p.2 < e := by omega
            rcases hp with ⟨x1, x2, x3, x4, x5⟩ | ⟨x1, x2, x3, x4, x5⟩ | ⟨x1, x2, x3, x4, x5⟩ | ⟨x1, x2, x3, x4, x5⟩ | ⟨x1, x2, x3, x4, x5⟩
            all_goals
              simp [h1, h2, h5, h6, h8, g, hG, kerC, q7, hqq, hf7, x1, x2, x3, x4, x5, hkn, nthL_at p0, nthL_at p1, n1, n2, k15, p0', c1, c2, n3, ge, nthL_at qe]
              repeat (refine ⟨by omega, ?_⟩)
              exact next _ _ (by simp [h1]) (by simp [h2]) (by simp [h5]) (by simp [h6]) (by simp [htk]) (by simp) (by simp) (by rw [old1 hl]; exact hG)
          · rcases hp with ⟨x1, x2, x3, x4, x5⟩ | ⟨x1, x2, x3, x4, x5⟩ | ⟨x1, x2, x3, x4, x5⟩ | ⟨x1, x2, x3, x4, x5⟩ | ⟨x1, x2, x3, x4, x5⟩
            all_goals
              simp [h1, h2, h5, h6, h8, g, hG, kerC, q7, hqq, hf7, x1, x2, x3, x4, x5, hkn, nthL_at p0, nthL_at p1, n1, n2, k15, p0', c1, c2, ge, nthL_at qe]
              repeat (refine ⟨by omega, ?_⟩)
              exact next _ _ (by simp [h1]) (by simp [h2]) (by simp [h5]) (by simp [h6]) (by simp [htk]) (by simp) (by simp) (by rw [old1 hl]; exact hG)
        · rcases hp with ⟨x1, x2, x3, x4, x5⟩ | ⟨x1, x2, x3, x4, x5⟩ | ⟨x1, x2, x3, x4, x5⟩ | ⟨x1, x2, x3, x4, x5⟩ | ⟨x1, x2, x3, x4, x5⟩
          all_goals
            simp [h1, h2, h5, h6, h8, g, hG, kerC, q7, hqq, hf7, x1, x2, x3, x4, x5, hkn, nthL_at p0, nthL_at p1, n1, n2, k15, p0', c1, ge, nthL_at qe]
            repeat (refine ⟨by omega, ?_⟩)
            exact next _ _ (by simp [h1]) (by simp [h2]) (by simp [h5]) (by simp [h6]) (by simp [htk]) (by simp) (by simp) (by rw [old1 hl]; exact hG)
      · rcases hp with ⟨x1, x2, x3, x4, x5⟩ | ⟨x1, x2, x3, x4, x5⟩ | ⟨x1, x2, x3, x4, x5⟩ | ⟨x1, x2, x3, x4, x5⟩ | ⟨x1, x2, x3, x4, x5⟩
        all_goals
          simp [h1, h2, h5, h6, h8, g, hG, kerC, q7, hqq, hf7, x1, x2, x3, x4, x5, hkn, nthL_at p0, nthL_at p1, n1, n2, k15]
          repeat (refine ⟨by omega, ?_⟩)
          exact next _ _ (by simp [h1]) (by simp [h2]) (by simp [h5]) (by simp [h6]) (by simp [htk]) (by simp) (by simp) (by rw [old1 hl]; exact hG)
    | false =>
      rw [hh, Bool.or_false] at htk
      have hp : o.d ≠ k ∧ o.e ≠ k ∧ o.a ≠ k ∧ o.b ≠ k ∧ o.c ≠ k := by
        simp only [hasB, List.any_cons, List.any_nil, Bool.or_false, Bool.or_eq_false_iff, decide_eq_false_iff_not] at hh
        exact hh
      obtain ⟨x1, x2, x3, x4, x5⟩ := hp
      have last : ∀ ρ' G', lk ρ' 1 = .i k → lk ρ' 2 = .ptr 0 0 → lk ρ' 5 = .lst (spC S) vs.length 2 → lk ρ' 6 = .lst ((f.ends 0).map .i) (f.ends 0).length 1 → lk ρ' 7 = .bool ((os.take i).any fun o => hasB o k) → lk ρ' 8 = .i ((i : Int) + 1) → 0 < G'.length → G'[0]? = some (.cells (kerC vs os rs) 0) → Nx ρ' [] G' := by
        intro ρ' G' a1 a2 a5 a6 a7 a8 b1 b2
        exact next ρ' G' a1 a2 a5 a6 (by rw [a7, htk]) a8 b1 b2
      by_cases k15 : o.kind = 15
      · by_cases p0' : 0 ≤ p.1
        · have w2 := w2 k15 p0'
          by_cases c1 : p.1 < e
          · by_cases c2 : (i : Int) < p.2
            · have w2 := w2 c1 c2
              have n1 : ¬ (i : Int) < p.1 := by omega
              have n3 : ¬ p.2 < e := by omega
              simp [h1, h2, h5, h6, h8, g, hG, kerC, q7, hqq, hf7, x1, x2, x3, x4, x5, hkn, nthL_at p0, nthL_at p1, n1, k15, p0', c1, c2, n3, ge, nthL_at qe]
              repeat (refine ⟨by omega, ?_⟩)
              exact last _ _ (by simp [h1]) (by simp [h2]) (by simp [h5]) (by simp [h6]) (by simp [h7]) (by simp) (by simp) (by rw [old1 hl]; exact hG)
            · simp [h1, h2, h5, h6, h8, g, hG, kerC, q7, hqq, hf7, x1, x2, x3, x4, x5, hkn, nthL_at p0, nthL_at p1, k15, p0', c1, c2, ge, nthL_at qe]
              repeat (refine ⟨by omega, ?_⟩)
              exact last _ _ (by simp [h1]) (by simp [h2]) (by simp [h5]) (by simp [h6]) (by simp [h7]) (by simp) (by simp) (by rw [old1 hl]; exact hG)
          · simp [h1, h2, h5, h6, h8, g, hG, kerC, q7, hqq, hf7, x1, x2, x3, x4, x5, hkn, nthL_at p0, nthL_at p1, k15, p0', c1, ge, nthL_at qe]
            repeat (refine ⟨by omega, ?_⟩)
            exact last _ _ (by simp [h1]) (by simp [h2]) (by simp [h5]) (by simp [h6]) (by simp [h7]) (by simp) (by simp) (by rw [old1 hl]; exact hG)
        · simp [h1, h2, h5, h6, h8, g, hG, kerC, q7, hqq, hf7, x1, x2, x3, x4, x5, hkn, nthL_at p0, nthL_at p1, k15, p0']
          repeat (refine ⟨by omega, ?_⟩)
          exact last _ _ (by simp [h1]) (by simp [h2]) (by simp [h5]) (by simp [h6]) (by simp [h7]) (by simp) (by simp) (by rw [old1 hl]; exact hG)
      · simp [h1, h2, h5, h6, h8, g, hG, kerC, q7, hqq, hf7, x1, x2, x3, x4, x5, hkn, k15]
        repeat (refine ⟨by omega, ?_⟩)
        exact last _ _ (by simp [h1]) (by simp [h2]) (by simp [h5]) (by simp [h6]) (by simp [h7]) (by simp) (by simp) (by rw [old1 hl]; exact hG)
  · rw [List.take_of_length_le (by omega)] at h7
    have kl0 : k * 2 ≤ (spC S).length := by omega
    by_cases p0' : 0 ≤ p.1
    · have e3 : (os.any fun o => hasB o k) = true := by rw [w3]; exact decide_eq_true p0'
      have p1' : 0 ≤ p.2 := by rw [e3] at w4; exact of_decide_eq_true w4.symm
      rw [e3] at h7
      simp [h1, h2, h5, h7, h8, g, hG, kerC, hkn, nthL_at p0, nthL_at p1, p0', p1', eqbP]
    · have e3 : (os.any fun o => hasB o k) = false := by rw [w3]; exact decide_eq_false p0'
      have p1' : ¬ 0 ≤ p.2 := by rw [e3] at w4; exact of_decide_eq_false w4.symm
      rw [e3] at h7
      simp [h1, h2, h5, h7, h8, g, hG, kerC, hkn, nthL_at p0, nthL_at p1, p0', p1', eqbP]
end Go.Proofs.Ytknbplplhbfggaa
