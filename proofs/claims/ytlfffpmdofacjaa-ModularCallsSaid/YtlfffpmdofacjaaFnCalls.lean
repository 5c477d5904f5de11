/- The statement ModularCalls: its walk. -/
import Derived.Test.YtlfffpmdofacjaaFnR
namespace Go.Proofs.Ytlfffpmdofacjaa
open Go.Sv
set_option linter.unusedSimpArgs false
set_option maxRecDepth 10000

def c_law03_ModularCalls : LC :=
 (.seq (.ops [
   ⟨(some 10), none, .move (.c (.bool false))⟩])
 (.seq (.seq (.ops [
     ⟨(some 31), none, .callV (.c (.fn (.func 22) [] [])) []⟩,
     ⟨(some 32), none, .un .not (.t 31)⟩])
   (.cond (.t 32)
    (.seq (.ops [
       ⟨(some 10), none, .move (.c (.bool false))⟩])
     .ret)
    .skip))
  (.seq (.seq (.ops [
      ⟨(some 33), none, .move (.t 0)⟩,
      ⟨(some 34), none, .move (.t 1)⟩,
      ⟨(some 35), none, .move (.t 2)⟩,
      ⟨(some 36), none, .callV (.c (.fn (.func 23) [] [])) [(.t 33), (.t 34), (.t 35)]⟩,
      ⟨(some 37), none, .un .not (.t 36)⟩,
      ⟨(some 38), none, .move (.t 37)⟩,
      ⟨(some 39), (some (38, false)), .move (.t 3)⟩,
      ⟨(some 40), (some (38, false)), .lenSl (.t 39)⟩,
      ⟨(some 41), (some (38, false)), .bin .gtr true 3 (.t 40) (.c (.i 2))⟩,
      ⟨(some 42), none, .pick (.t 38) (.c (.bool true)) (.t 41)⟩,
      ⟨(some 43), none, .move (.t 42)⟩,
      ⟨(some 44), (some (43, false)), .move (.t 4)⟩,
      ⟨(some 45), (some (43, false)), .bin .gtr true 3 (.t 44) (.c (.i 8))⟩,
      ⟨(some 46), (some (43, false)), .move (.t 45)⟩,
      ⟨(some 47), (some (46, true)), .move (.t 4)⟩,
      ⟨(some 48), (some (46, true)), .bin .leq true 3 (.t 47) (.c (.i 512))⟩,
      ⟨(some 49), (some (43, false)), .pick (.t 46) (.t 48) (.c (.bool false))⟩,
      ⟨(some 50), none, .pick (.t 43) (.c (.bool true)) (.t 49)⟩])
    (.cond (.t 50)
     (.seq (.ops [
        ⟨(some 10), none, .move (.c (.bool true))⟩])
      .ret)
     .skip))
   (.seq (.ops [
      ⟨(some 52), none, .move (.t 0)⟩,
      ⟨(some 53), none, .move (.t 1)⟩,
      ⟨(some 54), none, .move (.t 2)⟩,
      ⟨(some 55), none, .callV (.c (.fn (.func 30) [] [])) [(.t 52), (.t 53), (.t 54)]⟩,
      ⟨(some 51), none, .move (.t 55)⟩,
      ⟨(some 56), none, .extract 0 (.t 51)⟩,
      ⟨(some 57), none, .extract 1 (.t 51)⟩,
      ⟨(some 11), none, .move (.t 56)⟩,
      ⟨(some 12), none, .move (.t 57)⟩])
    (.seq (.ops [
       ⟨(some 59), none, .move (.t 0)⟩,
       ⟨(some 60), none, .move (.t 1)⟩,
       ⟨(some 61), none, .move (.t 2)⟩,
       ⟨(some 62), none, .callV (.c (.fn (.func 39) [] [])) [(.t 59), (.t 60), (.t 61)]⟩,
       ⟨(some 58), none, .move (.t 62)⟩,
       ⟨(some 63), none, .extract 0 (.t 58)⟩,
       ⟨(some 64), none, .extract 1 (.t 58)⟩,
       ⟨(some 13), none, .move (.t 63)⟩,
       ⟨(some 14), none, .move (.t 64)⟩])
     (.seq (.ops [
        ⟨(some 66), none, .move (.t 0)⟩,
        ⟨(some 67), none, .move (.t 1)⟩,
        ⟨(some 68), none, .move (.t 2)⟩,
        ⟨(some 69), none, .callV (.c (.fn (.func 31) [] [])) [(.t 66), (.t 67), (.t 68)]⟩,
        ⟨(some 65), none, .move (.t 69)⟩,
        ⟨(some 70), none, .extract 0 (.t 65)⟩,
        ⟨(some 71), none, .extract 1 (.t 65)⟩,
        ⟨(some 15), none, .move (.t 70)⟩,
        ⟨(some 16), none, .move (.t 71)⟩])
      (.seq (.ops [
         ⟨(some 73), none, .move (.t 0)⟩,
         ⟨(some 74), none, .move (.t 1)⟩,
         ⟨(some 75), none, .move (.t 2)⟩,
         ⟨(some 76), none, .callV (.c (.fn (.func 40) [] [])) [(.t 73), (.t 74), (.t 75)]⟩,
         ⟨(some 72), none, .move (.t 76)⟩,
         ⟨(some 77), none, .extract 0 (.t 72)⟩,
         ⟨(some 78), none, .extract 1 (.t 72)⟩,
         ⟨(some 17), none, .move (.t 77)⟩,
         ⟨(some 18), none, .move (.t 78)⟩])
       (.seq (.ops [
          ⟨(some 80), none, .move (.t 0)⟩,
          ⟨(some 81), none, .move (.t 1)⟩,
          ⟨(some 82), none, .move (.t 2)⟩,
          ⟨(some 83), none, .callV (.c (.fn (.func 26) [] [])) [(.t 80), (.t 81), (.t 82)]⟩,
          ⟨(some 79), none, .move (.t 83)⟩,
          ⟨(some 84), none, .extract 0 (.t 79)⟩,
          ⟨(some 85), none, .extract 1 (.t 79)⟩,
          ⟨(some 19), none, .move (.t 84)⟩,
          ⟨(some 20), none, .move (.t 85)⟩])
        (.seq (.ops [
           ⟨(some 87), none, .move (.t 0)⟩,
           ⟨(some 88), none, .move (.t 1)⟩,
           ⟨(some 89), none, .move (.t 2)⟩,
           ⟨(some 90), none, .callV (.c (.fn (.func 41) [] [])) [(.t 87), (.t 88), (.t 89)]⟩,
           ⟨(some 86), none, .move (.t 90)⟩,
           ⟨(some 91), none, .extract 0 (.t 86)⟩,
           ⟨(some 92), none, .extract 1 (.t 86)⟩,
           ⟨(some 21), none, .move (.t 91)⟩,
           ⟨(some 22), none, .move (.t 92)⟩])
         (.seq (.seq (.ops [
             ⟨(some 93), none, .move (.t 11)⟩,
             ⟨(some 94), none, .move (.t 13)⟩,
             ⟨(some 95), none, .callV (.c (.fn (.func 19) [] [])) [(.t 93), (.t 94)]⟩,
             ⟨(some 96), none, .un .not (.t 95)⟩,
             ⟨(some 97), none, .move (.t 96)⟩,
             ⟨(some 98), (some (97, false)), .move (.t 12)⟩,
             ⟨(some 99), (some (97, false)), .move (.t 14)⟩,
             ⟨(some 100), (some (97, false)), .bin .neq false 25 (.t 98) (.t 99)⟩,
             ⟨(some 101), none, .pick (.t 97) (.c (.bool true)) (.t 100)⟩,
             ⟨(some 102), none, .move (.t 101)⟩,
             ⟨(some 103), (some (102, false)), .move (.t 15)⟩,
             ⟨(some 104), (some (102, false)), .move (.t 17)⟩,
             ⟨(some 105), (some (102, false)), .callV (.c (.fn (.func 19) [] [])) [(.t 103), (.t 104)]⟩,
             ⟨(some 106), (some (102, false)), .un .not (.t 105)⟩,
             ⟨(some 107), none, .pick (.t 102) (.c (.bool true)) (.t 106)⟩,
             ⟨(some 108), none, .move (.t 107)⟩,
             ⟨(some 109), (some (108, false)), .move (.t 16)⟩,
             ⟨(some 110), (some (108, false)), .move (.t 18)⟩,
             ⟨(some 111), (some (108, false)), .bin .neq false 25 (.t 109) (.t 110)⟩,
             ⟨(some 112), none, .pick (.t 108) (.c (.bool true)) (.t 111)⟩,
             ⟨(some 113), none, .move (.t 112)⟩,
             ⟨(some 114), (some (113, false)), .move (.t 19)⟩,
             ⟨(some 115), (some (113, false)), .move (.t 21)⟩,
             ⟨(some 116), (some (113, false)), .callV (.c (.fn (.func 19) [] [])) [(.t 114), (.t 115)]⟩,
             ⟨(some 117), (some (113, false)), .un .not (.t 116)⟩,
             ⟨(some 118), none, .pick (.t 113) (.c (.bool true)) (.t 117)⟩,
             ⟨(some 119), none, .move (.t 118)⟩,
             ⟨(some 120), (some (119, false)), .move (.t 20)⟩,
             ⟨(some 121), (some (119, false)), .move (.t 22)⟩,
             ⟨(some 122), (some (119, false)), .bin .neq false 25 (.t 120) (.t 121)⟩,
             ⟨(some 123), none, .pick (.t 119) (.c (.bool true)) (.t 122)⟩])
           (.cond (.t 123)
            (.seq (.ops [
               ⟨(some 10), none, .move (.c (.bool false))⟩])
             .ret)
            .skip))
          (.seq (.ops [
             ⟨(some 125), none, .move (.t 0)⟩,
             ⟨(some 126), none, .move (.t 3)⟩,
             ⟨(some 127), none, .move (.t 2)⟩,
             ⟨(some 128), none, .callV (.c (.fn (.func 24) [] [])) [(.t 125), (.t 126), (.t 127)]⟩,
             ⟨(some 124), none, .move (.t 128)⟩,
             ⟨(some 129), none, .extract 0 (.t 124)⟩,
             ⟨(some 130), none, .extract 1 (.t 124)⟩,
             ⟨(some 11), none, .move (.t 129)⟩,
             ⟨(some 12), none, .move (.t 130)⟩])
           (.seq (.ops [
              ⟨(some 132), none, .move (.t 0)⟩,
              ⟨(some 133), none, .move (.t 3)⟩,
              ⟨(some 134), none, .move (.t 2)⟩,
              ⟨(some 135), none, .callV (.c (.fn (.func 42) [] [])) [(.t 132), (.t 133), (.t 134)]⟩,
              ⟨(some 131), none, .move (.t 135)⟩,
              ⟨(some 136), none, .extract 0 (.t 131)⟩,
              ⟨(some 137), none, .extract 1 (.t 131)⟩,
              ⟨(some 13), none, .move (.t 136)⟩,
              ⟨(some 14), none, .move (.t 137)⟩])
            (.seq (.ops [
               ⟨(some 139), none, .move (.t 0)⟩,
               ⟨(some 140), none, .move (.t 2)⟩,
               ⟨(some 141), none, .callV (.c (.fn (.func 35) [] [])) [(.t 139), (.t 140)]⟩,
               ⟨(some 138), none, .move (.t 141)⟩,
               ⟨(some 142), none, .extract 0 (.t 138)⟩,
               ⟨(some 143), none, .extract 1 (.t 138)⟩,
               ⟨(some 15), none, .move (.t 142)⟩,
               ⟨(some 16), none, .move (.t 143)⟩])
             (.seq (.ops [
                ⟨(some 145), none, .move (.t 0)⟩,
                ⟨(some 146), none, .move (.t 2)⟩,
                ⟨(some 147), none, .callV (.c (.fn (.func 43) [] [])) [(.t 145), (.t 146)]⟩,
                ⟨(some 144), none, .move (.t 147)⟩,
                ⟨(some 148), none, .extract 0 (.t 144)⟩,
                ⟨(some 149), none, .extract 1 (.t 144)⟩,
                ⟨(some 17), none, .move (.t 148)⟩,
                ⟨(some 18), none, .move (.t 149)⟩])
              (.seq (.ops [
                 ⟨(some 151), none, .move (.t 4)⟩,
                 ⟨(some 152), none, .move (.t 2)⟩,
                 ⟨(some 153), none, .callV (.c (.fn (.func 36) [] [])) [(.t 151), (.t 152)]⟩,
                 ⟨(some 150), none, .move (.t 153)⟩,
                 ⟨(some 154), none, .extract 0 (.t 150)⟩,
                 ⟨(some 155), none, .extract 1 (.t 150)⟩,
                 ⟨(some 19), none, .move (.t 154)⟩,
                 ⟨(some 20), none, .move (.t 155)⟩])
               (.seq (.ops [
                  ⟨(some 157), none, .move (.t 4)⟩,
                  ⟨(some 158), none, .move (.t 2)⟩,
                  ⟨(some 159), none, .callV (.c (.fn (.func 44) [] [])) [(.t 157), (.t 158)]⟩,
                  ⟨(some 156), none, .move (.t 159)⟩,
                  ⟨(some 160), none, .extract 0 (.t 156)⟩,
                  ⟨(some 161), none, .extract 1 (.t 156)⟩,
                  ⟨(some 21), none, .move (.t 160)⟩,
                  ⟨(some 22), none, .move (.t 161)⟩])
                (.seq (.ops [
                   ⟨(some 163), none, .move (.t 2)⟩,
                   ⟨(some 164), none, .callV (.c (.fn (.func 38) [] [])) [(.t 163)]⟩,
                   ⟨(some 162), none, .move (.t 164)⟩,
                   ⟨(some 165), none, .extract 0 (.t 162)⟩,
                   ⟨(some 166), none, .extract 1 (.t 162)⟩,
                   ⟨(some 23), none, .move (.t 165)⟩,
                   ⟨(some 24), none, .move (.t 166)⟩])
                 (.seq (.ops [
                    ⟨(some 168), none, .move (.t 2)⟩,
                    ⟨(some 169), none, .callV (.c (.fn (.func 45) [] [])) [(.t 168)]⟩,
                    ⟨(some 167), none, .move (.t 169)⟩,
                    ⟨(some 170), none, .extract 0 (.t 167)⟩,
                    ⟨(some 171), none, .extract 1 (.t 167)⟩,
                    ⟨(some 25), none, .move (.t 170)⟩,
                    ⟨(some 26), none, .move (.t 171)⟩])
                  (.seq (.ops [
                     ⟨(some 173), none, .move (.t 0)⟩,
                     ⟨(some 174), none, .move (.t 2)⟩,
                     ⟨(some 175), none, .move (.t 4)⟩,
                     ⟨(some 176), none, .callV (.c (.fn (.func 37) [] [])) [(.t 173), (.t 174), (.t 175)]⟩,
                     ⟨(some 172), none, .move (.t 176)⟩,
                     ⟨(some 177), none, .extract 0 (.t 172)⟩,
                     ⟨(some 178), none, .extract 1 (.t 172)⟩,
                     ⟨(some 27), none, .move (.t 177)⟩,
                     ⟨(some 28), none, .move (.t 178)⟩])
                   (.seq (.ops [
                      ⟨(some 180), none, .move (.t 0)⟩,
                      ⟨(some 181), none, .move (.t 2)⟩,
                      ⟨(some 182), none, .move (.t 4)⟩,
                      ⟨(some 183), none, .callV (.c (.fn (.func 46) [] [])) [(.t 180), (.t 181), (.t 182)]⟩,
                      ⟨(some 179), none, .move (.t 183)⟩,
                      ⟨(some 184), none, .extract 0 (.t 179)⟩,
                      ⟨(some 185), none, .extract 1 (.t 179)⟩,
                      ⟨(some 29), none, .move (.t 184)⟩,
                      ⟨(some 30), none, .move (.t 185)⟩])
                    (.seq (.ops [
                       ⟨(some 186), none, .move (.t 11)⟩,
                       ⟨(some 187), none, .move (.t 13)⟩,
                       ⟨(some 188), none, .callV (.c (.fn (.func 19) [] [])) [(.t 186), (.t 187)]⟩,
                       ⟨(some 189), none, .move (.t 188)⟩,
                       ⟨(some 190), (some (189, true)), .move (.t 12)⟩,
                       ⟨(some 191), (some (189, true)), .move (.t 14)⟩,
                       ⟨(some 192), (some (189, true)), .bin .eql false 25 (.t 190) (.t 191)⟩,
                       ⟨(some 193), none, .pick (.t 189) (.t 192) (.c (.bool false))⟩,
                       ⟨(some 194), none, .move (.t 193)⟩,
                       ⟨(some 195), (some (194, true)), .move (.t 15)⟩,
                       ⟨(some 196), (some (194, true)), .move (.t 17)⟩,
                       ⟨(some 197), (some (194, true)), .callV (.c (.fn (.func 19) [] [])) [(.t 195), (.t 196)]⟩,
                       ⟨(some 198), none, .pick (.t 194) (.t 197) (.c (.bool false))⟩,
                       ⟨(some 199), none, .move (.t 198)⟩,
                       ⟨(some 200), (some (199, true)), .move (.t 16)⟩,
                       ⟨(some 201), (some (199, true)), .move (.t 18)⟩,
                       ⟨(some 202), (some (199, true)), .bin .eql false 25 (.t 200) (.t 201)⟩,
                       ⟨(some 203), none, .pick (.t 199) (.t 202) (.c (.bool false))⟩,
                       ⟨(some 204), none, .move (.t 203)⟩,
                       ⟨(some 205), (some (204, true)), .move (.t 19)⟩,
                       ⟨(some 206), (some (204, true)), .move (.t 21)⟩,
                       ⟨(some 207), (some (204, true)), .callV (.c (.fn (.func 19) [] [])) [(.t 205), (.t 206)]⟩,
                       ⟨(some 208), none, .pick (.t 204) (.t 207) (.c (.bool false))⟩,
                       ⟨(some 209), none, .move (.t 208)⟩,
                       ⟨(some 210), (some (209, true)), .move (.t 20)⟩,
                       ⟨(some 211), (some (209, true)), .move (.t 22)⟩,
                       ⟨(some 212), (some (209, true)), .bin .eql false 25 (.t 210) (.t 211)⟩,
                       ⟨(some 213), none, .pick (.t 209) (.t 212) (.c (.bool false))⟩,
                       ⟨(some 214), none, .move (.t 213)⟩,
                       ⟨(some 215), (some (214, true)), .move (.t 23)⟩,
                       ⟨(some 216), (some (214, true)), .move (.t 25)⟩,
                       ⟨(some 217), (some (214, true)), .bin .eql false 29 (.t 215) (.t 216)⟩,
                       ⟨(some 218), none, .pick (.t 214) (.t 217) (.c (.bool false))⟩,
                       ⟨(some 219), none, .move (.t 218)⟩,
                       ⟨(some 220), (some (219, true)), .move (.t 24)⟩,
                       ⟨(some 221), (some (219, true)), .move (.t 26)⟩,
                       ⟨(some 222), (some (219, true)), .bin .eql false 25 (.t 220) (.t 221)⟩,
                       ⟨(some 223), none, .pick (.t 219) (.t 222) (.c (.bool false))⟩,
                       ⟨(some 224), none, .move (.t 223)⟩,
                       ⟨(some 225), (some (224, true)), .move (.t 27)⟩,
                       ⟨(some 226), (some (224, true)), .move (.t 29)⟩,
                       ⟨(some 227), (some (224, true)), .callV (.c (.fn (.func 19) [] [])) [(.t 225), (.t 226)]⟩,
                       ⟨(some 228), none, .pick (.t 224) (.t 227) (.c (.bool false))⟩,
                       ⟨(some 229), none, .move (.t 228)⟩,
                       ⟨(some 230), (some (229, true)), .move (.t 28)⟩,
                       ⟨(some 231), (some (229, true)), .move (.t 30)⟩,
                       ⟨(some 232), (some (229, true)), .bin .eql false 25 (.t 230) (.t 231)⟩,
                       ⟨(some 233), none, .pick (.t 229) (.t 232) (.c (.bool false))⟩,
                       ⟨(some 234), none, .move (.t 233)⟩,
                       ⟨(some 235), (some (234, true)), .move (.t 0)⟩,
                       ⟨(some 236), (some (234, true)), .move (.t 1)⟩,
                       ⟨(some 237), (some (234, true)), .callV (.c (.fn (.func 34) [] [])) [(.t 235), (.t 236)]⟩,
                       ⟨(some 238), (some (234, true)), .move (.t 0)⟩,
                       ⟨(some 239), (some (234, true)), .move (.t 1)⟩,
                       ⟨(some 240), (some (234, true)), .callV (.c (.fn (.func 47) [] [])) [(.t 238), (.t 239)]⟩,
                       ⟨(some 241), (some (234, true)), .callV (.c (.fn (.func 19) [] [])) [(.t 237), (.t 240)]⟩,
                       ⟨(some 242), none, .pick (.t 234) (.t 241) (.c (.bool false))⟩,
                       ⟨(some 10), none, .move (.t 242)⟩])
                     .ret)))))))))))))))))))))
theorem r_law03_ModularCalls : resFn Try.prog 10 = some ⟨243, c_law03_ModularCalls.r, [.tmp 10]⟩ := by kernel_rfl
theorem k_law03_ModularCalls : c_law03_ModularCalls.ok = true := by kernel_rfl



theorem mRl {n : List UInt64} {r : Nat} (h : val n ≠ 0 → r < val n) : (mR (val n) r).length ≤ n.length := by
  by_cases hz : val n = 0
  · rw [mR_0 hz]; simp
  · rw [mR_p hz]; exact toL_len_lt (h hz)
theorem law03_ModularCalls_run (a b n x : List UInt64) (l : Int) (_ : a.length ≤ 9223372036854775807) (_ : b.length ≤ 9223372036854775807) (_ : n.length ≤ 9223372036854775807) (_ : x.length ≤ 9223372036854775807) (_ : -9223372036854775808 ≤ l ∧ l < 9223372036854775808) : CallL Try.prog (.fn 10) [LU a, LU b, LU n, LU x, .i l] [] fun v _ => v = .bool true := by
  refine call_body r_law03_ModularCalls k_law03_ModularCalls (by simp) ?_
  rw [c_law03_ModularCalls, wp_assoc, wp_assoc]
  refine wp_cut (fun ρ D G => lk ρ 0 = LU a ∧ lk ρ 1 = LU b ∧ lk ρ 2 = LU n ∧ lk ρ 3 = LU x ∧ lk ρ 4 = .i l ∧ D = [] ∧ a.length ≤ 5 ∧ b.length ≤ 5 ∧ n.length ≤ 5 ∧ x.length ≤ 2) (fun Nx hNx => ?_) (fun ρ D G hΦ => ?_)
  · simp
    refine CallL_F law03_lives_ok (by simp) ?_
    simp
    refine CallL_F (law03_light_ok a b n) (by simp) ?_
    by_cases h1 : a.length ≤ 5 ∧ b.length ≤ 5 ∧ n.length ≤ 5
    rotate_left
    · rw [decide_eq_false h1]; simp
    obtain ⟨la, lb, ln⟩ := h1
    have h1 : a.length ≤ 5 ∧ b.length ≤ 5 ∧ n.length ≤ 5 := ⟨la, lb, ln⟩
    rw [decide_eq_true h1]
    by_cases lx : 2 < x.length
    · have lxi : (2 : Int) < x.length := by omega
      simp [lxi]
    have lxi : ¬ (2 : Int) < x.length := by omega
    by_cases hl8 : 8 < l
    · by_cases hl512 : l ≤ 512
      · simp [lxi, hl8, hl512]
      simp [lxi, hl8, hl512]
      exact hNx _ _ _ ⟨by simp, by simp, by simp, by simp, by simp, rfl, la, lb, ln, by omega⟩
    · simp [lxi, hl8]
      exact hNx _ _ _ ⟨by simp, by simp, by simp, by simp, by simp, rfl, la, lb, ln, by omega⟩
  obtain ⟨e0, e1, e2, e3, e4, rfl, la, lb, ln, lx⟩ := hΦ
  have b1 := mRl (n := n) (r := (val a + val b) % val n) (fun h => Nat.mod_lt _ (by omega))
  have b2 := mRl (n := n) (r := subM (val a) (val b) (val n)) (fun h => subM_lt h)
  have b3 := mRl (n := n) (r := val a * val b % val n) (fun h => Nat.mod_lt _ (by omega))
  have b4 := mRl (n := n) (r := val a ^ val x % val n) (fun h => Nat.mod_lt _ (by omega))
  have b5 : (ivR (val a) (val n)).length ≤ n.length := by
    unfold ivR
    split
    · rename_i h; exact toL_len_lt (invN_spec h.1 h.2).1
    · simp
  have b6 : (rdR l (val n)).length ≤ n.length := by
    unfold rdR
    split
    · simp
    · exact mRl (fun h => Nat.mod_lt _ (by omega))
  have b8 : (reR a n l).length ≤ n.length := by
    unfold reR
    split
    · rename_i h; exact toL_len_lt (Nat.mod_lt _ (by have := oddL_ne h.1; omega))
    · simp
  have b9 : (toL (Nat.gcd (val a) (val b))).length ≤ 5 := by
    by_cases hb : val b = 0
    · rw [hb, Nat.gcd_zero_right]
      have := toL_length_val a
      omega
    · have := toL_len_le (b := b) (n := Nat.gcd (val a) (val b)) (Nat.gcd_le_right _ (by omega))
      omega
  have c1 := modular_Add_ok a b n (by omega) (by omega) (by omega)
  have d1 := ref03_Add_ok a b n (by omega) (by omega) (by omega)
  have c2 := modular_Sub_ok a b n (by omega) (by omega) (by omega)
  have d2 := ref03_Sub_ok a b n (by omega) (by omega) (by omega)
  have c3 := modular_Mul_ok a b n (by omega) (by omega) (by omega)
  have d3 := ref03_Mul_ok a b n (by omega) (by omega) (by omega)
  have c4 := modular_Pow_ok a x n (by omega) (by omega) (by omega)
  have d4 := ref03_Pow_ok a x n (by omega) (by omega) (by omega)
  have c5 := modular_Inverse_ok a n (by omega) (by omega)
  have d5 := ref03_Inverse_ok a n (by omega) (by omega)
  have c6 := modular_Radix_ok l n (by omega)
  have d6 := ref03_Radix_ok l n (by omega)
  have c7 := modular_Const_ok n
  have d7 := ref03_Const_ok n
  have c8 := modular_Reduce_ok a n l (by omega) (by omega)
  have d8 := ref03_Reduce_ok a n l (by omega) (by omega)
  have c9 := modular_Gcd_ok a b (by omega) (by omega)
  have d9 := ref03_Gcd_ok a b (by omega) (by omega)
  generalize mR (val n) ((val a + val b) % val n) = L1 at *
  generalize mR (val n) (subM (val a) (val b) (val n)) = L2 at *
  generalize mR (val n) (val a * val b % val n) = L3 at *
  generalize mR (val n) (val a ^ val x % val n) = L4 at *
  generalize ivR (val a) (val n) = L5 at *
  generalize rdR l (val n) = L6 at *
  generalize conR n = C7 at *
  generalize reR a n l = L8 at *
  generalize toL (Nat.gcd (val a) (val b)) = L9 at *
  generalize mE (val n) = E0 at *
  generalize ivE (val a) (val n) = E5 at *
  generalize rdE l (val n) = E6 at *
  generalize conE n = E7 at *
  generalize reE n l = E8 at *
  simp [e0, e1, e2]
  refine CallL_F c1 (by simp) ?_
  simp [RU, e0, e1, e2]
  refine CallL_F d1 (by simp) ?_
  simp [RU, e0, e1, e2]
  refine CallL_F c2 (by simp) ?_
  simp [RU, e0, e1, e2]
  refine CallL_F d2 (by simp) ?_
  simp [RU, e0, e1, e2]
  refine CallL_F c3 (by simp) ?_
  simp [RU, e0, e1, e2]
  refine CallL_F d3 (by simp) ?_
  simp [RU, e0, e1, e2]
  refine CallL_F (kit_Same_ok L1 L1 (by omega)) (by simp) ?_
  simp
  refine CallL_F (kit_Same_ok L2 L2 (by omega)) (by simp) ?_
  simp
  refine CallL_F (kit_Same_ok L3 L3 (by omega)) (by simp) ?_
  simp [e0, e2, e3]
  refine CallL_V c4 (by simp) ?_
  simp [e0, e2, e3]
  refine CallL_V d4 (by simp) ?_
  simp [e0, e2]
  refine CallL_V c5 (by simp) ?_
  simp [e0, e2]
  refine CallL_V d5 (by simp) ?_
  simp [e4, e2]
  refine CallL_F c6 (by simp) ?_
  simp [RU, e4, e2]
  refine CallL_F d6 (by simp) ?_
  simp [RU, e2]
  refine CallL_F c7 (by simp) ?_
  simp [e2]
  refine CallL_F d7 (by simp) ?_
  simp [e0, e2, e4]
  refine CallL_F c8 (by simp) ?_
  simp [RU, e0, e2, e4]
  refine CallL_F d8 (by simp) ?_
  simp [RU]
  refine CallL_F (kit_Same_ok L4 L4 (by omega)) (by simp) ?_
  simp
  refine CallL_F (kit_Same_ok L5 L5 (by omega)) (by simp) ?_
  simp
  refine CallL_F (kit_Same_ok L6 L6 (by omega)) (by simp) ?_
  simp
  refine CallL_F (kit_Same_ok L8 L8 (by omega)) (by simp) ?_
  simp [e0, e1]
  refine CallL_V c9 (by simp) ?_
  simp [e0, e1]
  refine CallL_V d9 (by simp) ?_
  simp
  refine CallL_F (kit_Same_ok L9 L9 (by omega)) (by simp) ?_
  simp
end Go.Proofs.Ytlfffpmdofacjaa
