/- Instructions: the statement InstKinds: its walk. -/
import Derived.Test.YtbcfbojigokplaaSvG4
import Derived.Test.YtbcfbojigokplaaFnSm
namespace Go.Proofs.Ytbcfbojigokplaa
open Go.Sv
set_option linter.unusedSimpArgs false
set_option maxRecDepth 10000

def c_law05_InstKinds : LC :=
 (.seq (.ops [
   ⟨(some 1), none, .box (.t 0)⟩,
   ⟨(some 2), none, .move (.c (.bool false))⟩])
 (.seq (.seq (.ops [
     ⟨(some 10), none, .callV (.c (.fn (.func 8) [] [])) []⟩,
     ⟨(some 11), none, .un .not (.t 10)⟩])
   (.cond (.t 11)
    (.seq (.ops [
       ⟨(some 2), none, .move (.c (.bool false))⟩])
     .ret)
    .skip))
  (.seq (.draw [
     (⟨(some 12), none, .loadN 9 (.t 1)⟩, []),
     (⟨(some 14), none, .loadN 9 (.t 1)⟩, []),
     (⟨(some 13), none, .callV (.c (.fn (.func 12) [] [])) [(.t 12)]⟩, [(⟨(some 14), none, .loadN 9 (.t 1)⟩, false)]),
     (⟨(some 15), none, .callV (.c (.fn (.func 13) [] [])) [(.t 14)]⟩, []),
     (⟨(some 3), none, .move (.t 13)⟩, []),
     (⟨(some 4), none, .move (.t 15)⟩, [])])
   (.seq (.ops [
      ⟨(some 17), none, .loadN 9 (.t 1)⟩,
      ⟨(some 18), none, .callV (.c (.fn (.func 17) [] [])) [(.t 17)]⟩,
      ⟨(some 16), none, .move (.t 18)⟩,
      ⟨(some 19), none, .extract 0 (.t 16)⟩,
      ⟨(some 20), none, .extract 1 (.t 16)⟩,
      ⟨(some 5), none, .move (.t 19)⟩,
      ⟨(some 6), none, .move (.t 20)⟩])
    (.seq (.seq (.ops [
        ⟨(some 21), none, .loadN 9 (.t 1)⟩,
        ⟨(some 22), none, .callV (.c (.fn (.func 9) [] [])) [(.t 21)]⟩,
        ⟨(some 23), none, .bin .neq true 27 (.t 22) (.c (.i 0))⟩])
      (.cond (.t 23)
       (.seq (.ops [
          ⟨(some 24), none, .move (.t 3)⟩,
          ⟨(some 25), none, .lenSl (.t 24)⟩,
          ⟨(some 26), none, .move (.t 4)⟩,
          ⟨(some 27), none, .lenSl (.t 26)⟩,
          ⟨(some 28), none, .bin .add false 3 (.t 25) (.t 27)⟩,
          ⟨(some 29), none, .bin .eql true 3 (.t 28) (.c (.i 0))⟩,
          ⟨(some 30), none, .move (.t 29)⟩,
          ⟨(some 31), (some (30, true)), .move (.t 5)⟩,
          ⟨(some 32), (some (30, true)), .bin .eql true 3 (.t 31) (.c (.i 0))⟩,
          ⟨(some 33), none, .pick (.t 30) (.t 32) (.c (.bool false))⟩,
          ⟨(some 34), none, .move (.t 33)⟩,
          ⟨(some 35), (some (34, true)), .move (.t 6)⟩,
          ⟨(some 36), (some (34, true)), .bin .eql true 3 (.t 35) (.c (.i 0))⟩,
          ⟨(some 37), none, .pick (.t 34) (.t 36) (.c (.bool false))⟩,
          ⟨(some 38), none, .move (.t 37)⟩,
          ⟨(some 39), (some (38, true)), .loadN 9 (.t 1)⟩,
          ⟨(some 40), (some (38, true)), .callV (.c (.fn (.func 18) [] [])) [(.t 39)]⟩,
          ⟨(some 41), (some (38, true)), .un .not (.t 40)⟩,
          ⟨(some 42), none, .pick (.t 38) (.t 41) (.c (.bool false))⟩,
          ⟨(some 2), none, .move (.t 42)⟩])
        .ret)
       .skip))
     (.seq (.seq (.ops [
         ⟨(some 7), none, .move (.c (.i 0))⟩])
       (.block 0 (.loop (.seq (.seq (.ops [
             ⟨(some 43), none, .move (.t 7)⟩,
             ⟨(some 44), none, .move (.t 3)⟩,
             ⟨(some 45), none, .lenSl (.t 44)⟩,
             ⟨(some 46), none, .bin .lss false 3 (.t 43) (.t 45)⟩])
           (.cond (.t 46)
            .skip
            (.exit 0)))
          (.seq (.block 1 (.seq (.draw [
               (⟨(some 49), none, .move (.t 3)⟩, []),
               (⟨(some 50), none, .move (.t 7)⟩, []),
               (⟨(some 51), none, .ixAddr 1 (.t 49) (.t 50)⟩, []),
               (⟨(some 52), none, .load1 (.t 51)⟩, []),
               (⟨(some 53), none, .bin .lss true 3 (.t 52) (.c (.i 0))⟩, []),
               (⟨(some 54), none, .move (.t 53)⟩, []),
               (⟨(some 55), (some (54, false)), .move (.t 3)⟩, []),
               (⟨(some 56), (some (54, false)), .move (.t 7)⟩, []),
               (⟨(some 57), (some (54, false)), .ixAddr 1 (.t 55) (.t 56)⟩, []),
               (⟨(some 58), (some (54, false)), .load1 (.t 57)⟩, []),
               (⟨(some 59), (some (54, false)), .bin .gtr true 3 (.t 58) (.c (.i 15))⟩, []),
               (⟨(some 60), none, .pick (.t 54) (.c (.bool true)) (.t 59)⟩, []),
               (⟨(some 61), none, .move (.t 60)⟩, []),
               (⟨(some 62), (some (61, false)), .move (.t 7)⟩, []),
               (⟨(some 63), (some (61, false)), .bin .gtr true 3 (.t 62) (.c (.i 0))⟩, []),
               (⟨(some 64), (some (61, false)), .move (.t 63)⟩, []),
               (⟨(some 65), (some (64, true)), .move (.t 3)⟩, []),
               (⟨(some 66), (some (64, true)), .move (.t 7)⟩, []),
               (⟨(some 67), (some (64, true)), .bin .sub true 3 (.t 66) (.c (.i 1))⟩, []),
               (⟨(some 68), (some (64, true)), .ixAddr 1 (.t 65) (.t 67)⟩, []),
               (⟨(some 69), (some (64, true)), .load1 (.t 68)⟩, []),
               (⟨(some 70), (some (64, true)), .move (.t 3)⟩, []),
               (⟨(some 71), (some (64, true)), .move (.t 7)⟩, []),
               (⟨(some 72), (some (64, true)), .ixAddr 1 (.t 70) (.t 71)⟩, []),
               (⟨(some 73), (some (64, true)), .load1 (.t 72)⟩, []),
               (⟨(some 74), (some (64, true)), .bin .geq false 3 (.t 69) (.t 73)⟩, []),
               (⟨(some 75), (some (61, false)), .pick (.t 64) (.t 74) (.c (.bool false))⟩, []),
               (⟨(some 76), none, .pick (.t 61) (.c (.bool true)) (.t 75)⟩, [])])
             (.cond (.t 76)
              (.seq (.ops [
                 ⟨(some 2), none, .move (.c (.bool false))⟩])
               .ret)
              .skip)))
           (.ops [
             ⟨(some 47), none, .move (.t 7)⟩,
             ⟨(some 48), none, .bin .add true 3 (.t 47) (.c (.i 1))⟩,
             ⟨(some 7), none, .move (.t 48)⟩]))))))
      (.seq (.seq (.ops [
          ⟨(some 8), none, .move (.c (.i 0))⟩])
        (.block 2 (.loop (.seq (.seq (.ops [
              ⟨(some 77), none, .move (.t 8)⟩,
              ⟨(some 78), none, .move (.t 4)⟩,
              ⟨(some 79), none, .lenSl (.t 78)⟩,
              ⟨(some 80), none, .bin .lss false 3 (.t 77) (.t 79)⟩])
            (.cond (.t 80)
             .skip
             (.exit 2)))
           (.seq (.block 3 (.seq (.draw [
                (⟨(some 83), none, .move (.t 4)⟩, []),
                (⟨(some 84), none, .move (.t 8)⟩, []),
                (⟨(some 85), none, .ixAddr 1 (.t 83) (.t 84)⟩, []),
                (⟨(some 86), none, .load1 (.t 85)⟩, []),
                (⟨(some 87), none, .bin .lss true 3 (.t 86) (.c (.i 0))⟩, []),
                (⟨(some 88), none, .move (.t 87)⟩, []),
                (⟨(some 89), (some (88, false)), .move (.t 4)⟩, []),
                (⟨(some 90), (some (88, false)), .move (.t 8)⟩, []),
                (⟨(some 91), (some (88, false)), .ixAddr 1 (.t 89) (.t 90)⟩, []),
                (⟨(some 92), (some (88, false)), .load1 (.t 91)⟩, []),
                (⟨(some 93), (some (88, false)), .bin .gtr true 3 (.t 92) (.c (.i 15))⟩, []),
                (⟨(some 94), none, .pick (.t 88) (.c (.bool true)) (.t 93)⟩, []),
                (⟨(some 95), none, .move (.t 94)⟩, []),
                (⟨(some 96), (some (95, false)), .move (.t 8)⟩, []),
                (⟨(some 97), (some (95, false)), .bin .gtr true 3 (.t 96) (.c (.i 0))⟩, []),
                (⟨(some 98), (some (95, false)), .move (.t 97)⟩, []),
                (⟨(some 99), (some (98, true)), .move (.t 4)⟩, []),
                (⟨(some 100), (some (98, true)), .move (.t 8)⟩, []),
                (⟨(some 101), (some (98, true)), .bin .sub true 3 (.t 100) (.c (.i 1))⟩, []),
                (⟨(some 102), (some (98, true)), .ixAddr 1 (.t 99) (.t 101)⟩, []),
                (⟨(some 103), (some (98, true)), .load1 (.t 102)⟩, []),
                (⟨(some 104), (some (98, true)), .move (.t 4)⟩, []),
                (⟨(some 105), (some (98, true)), .move (.t 8)⟩, []),
                (⟨(some 106), (some (98, true)), .ixAddr 1 (.t 104) (.t 105)⟩, []),
                (⟨(some 107), (some (98, true)), .load1 (.t 106)⟩, []),
                (⟨(some 108), (some (98, true)), .bin .geq false 3 (.t 103) (.t 107)⟩, []),
                (⟨(some 109), (some (95, false)), .pick (.t 98) (.t 108) (.c (.bool false))⟩, []),
                (⟨(some 110), none, .pick (.t 95) (.c (.bool true)) (.t 109)⟩, [])])
              (.cond (.t 110)
               (.seq (.ops [
                  ⟨(some 2), none, .move (.c (.bool false))⟩])
                .ret)
               .skip)))
            (.ops [
              ⟨(some 81), none, .move (.t 8)⟩,
              ⟨(some 82), none, .bin .add true 3 (.t 81) (.c (.i 1))⟩,
              ⟨(some 8), none, .move (.t 82)⟩]))))))
       (.seq (.ops [
          ⟨(some 111), none, .loadN 9 (.t 1)⟩,
          ⟨(some 112), none, .callV (.c (.fn (.func 18) [] [])) [(.t 111)]⟩,
          ⟨(some 9), none, .move (.t 112)⟩])
        (.seq (.ops [
           ⟨(some 113), none, .move (.t 5)⟩,
           ⟨(some 114), none, .bin .geq true 3 (.t 113) (.c (.i 0))⟩,
           ⟨(some 115), none, .move (.t 114)⟩,
           ⟨(some 116), (some (115, true)), .move (.t 5)⟩,
           ⟨(some 117), (some (115, true)), .bin .leq true 3 (.t 116) (.c (.i 7))⟩,
           ⟨(some 118), none, .pick (.t 115) (.t 117) (.c (.bool false))⟩,
           ⟨(some 119), none, .move (.t 118)⟩,
           ⟨(some 120), (some (119, true)), .move (.t 6)⟩,
           ⟨(some 121), (some (119, true)), .bin .geq true 3 (.t 120) (.c (.i 0))⟩,
           ⟨(some 122), none, .pick (.t 119) (.t 121) (.c (.bool false))⟩,
           ⟨(some 123), none, .move (.t 122)⟩,
           ⟨(some 124), (some (123, true)), .move (.t 6)⟩,
           ⟨(some 125), (some (123, true)), .bin .leq true 3 (.t 124) (.c (.i 7))⟩,
           ⟨(some 126), none, .pick (.t 123) (.t 125) (.c (.bool false))⟩,
           ⟨(some 127), none, .move (.t 126)⟩,
           ⟨(some 128), (some (127, true)), .move (.t 4)⟩,
           ⟨(some 129), (some (127, true)), .lenSl (.t 128)⟩,
           ⟨(some 130), (some (127, true)), .bin .leq true 3 (.t 129) (.c (.i 2))⟩,
           ⟨(some 131), none, .pick (.t 127) (.t 130) (.c (.bool false))⟩,
           ⟨(some 132), none, .move (.t 131)⟩,
           ⟨(some 133), (some (132, true)), .move (.t 3)⟩,
           ⟨(some 134), (some (132, true)), .lenSl (.t 133)⟩,
           ⟨(some 135), (some (132, true)), .bin .leq true 3 (.t 134) (.c (.i 3))⟩,
           ⟨(some 136), none, .pick (.t 132) (.t 135) (.c (.bool false))⟩,
           ⟨(some 137), none, .move (.t 136)⟩,
           ⟨(some 138), (some (137, true)), .move (.t 9)⟩,
           ⟨(some 139), (some (137, true)), .un .not (.t 138)⟩,
           ⟨(some 140), (some (137, true)), .move (.t 139)⟩,
           ⟨(some 141), (some (140, false)), .move (.t 3)⟩,
           ⟨(some 142), (some (140, false)), .lenSl (.t 141)⟩,
           ⟨(some 143), (some (140, false)), .move (.t 4)⟩,
           ⟨(some 144), (some (140, false)), .lenSl (.t 143)⟩,
           ⟨(some 145), (some (140, false)), .bin .add false 3 (.t 142) (.t 144)⟩,
           ⟨(some 146), (some (140, false)), .move (.t 6)⟩,
           ⟨(some 147), (some (140, false)), .bin .add false 3 (.t 145) (.t 146)⟩,
           ⟨(some 148), (some (140, false)), .bin .eql true 3 (.t 147) (.c (.i 0))⟩,
           ⟨(some 149), (some (137, true)), .pick (.t 140) (.c (.bool true)) (.t 148)⟩,
           ⟨(some 150), none, .pick (.t 137) (.t 149) (.c (.bool false))⟩,
           ⟨(some 151), none, .move (.t 150)⟩,
           ⟨(some 152), (some (151, true)), .fieldAddr 0 (.t 1)⟩,
           ⟨(some 153), (some (151, true)), .load1 (.t 152)⟩,
           ⟨(some 154), (some (151, true)), .callV (.c (.fn (.func 14) [] [])) [(.t 153)]⟩,
           ⟨(some 155), (some (151, true)), .bin .neq true 9 (.t 154) (.c (.str []))⟩,
           ⟨(some 156), none, .pick (.t 151) (.t 155) (.c (.bool false))⟩,
           ⟨(some 157), none, .move (.t 156)⟩,
           ⟨(some 158), (some (157, true)), .move (.t 5)⟩,
           ⟨(some 159), (some (157, true)), .bin .eql true 3 (.t 158) (.c (.i 0))⟩,
           ⟨(some 160), (some (157, true)), .move (.t 159)⟩,
           ⟨(some 161), (some (160, false)), .move (.t 5)⟩,
           ⟨(some 162), (some (160, false)), .bin .eql true 3 (.t 161) (.c (.i 1))⟩,
           ⟨(some 163), (some (157, true)), .pick (.t 160) (.c (.bool true)) (.t 162)⟩,
           ⟨(some 164), (some (157, true)), .move (.t 163)⟩,
           ⟨(some 165), (some (164, false)), .move (.t 5)⟩,
           ⟨(some 166), (some (164, false)), .bin .eql true 3 (.t 165) (.c (.i 2))⟩,
           ⟨(some 167), (some (157, true)), .pick (.t 164) (.c (.bool true)) (.t 166)⟩,
           ⟨(some 168), (some (157, true)), .move (.t 167)⟩,
           ⟨(some 169), (some (168, false)), .move (.t 5)⟩,
           ⟨(some 170), (some (168, false)), .bin .eql true 3 (.t 169) (.c (.i 4))⟩,
           ⟨(some 171), (some (157, true)), .pick (.t 168) (.c (.bool true)) (.t 170)⟩,
           ⟨(some 172), none, .pick (.t 157) (.t 171) (.c (.bool false))⟩,
           ⟨(some 2), none, .move (.t 172)⟩])
         .ret)))))))))
theorem r_law05_InstKinds : resFn Try.prog 5 = some ⟨173, c_law05_InstKinds.r, [.tmp 2]⟩ := by kernel_rfl
theorem k_law05_InstKinds : c_law05_InstKinds.ok = true := by kernel_rfl



def PhiK (x : In) (R W : List Int) (fr fw : Int) (ρ : LEnv) (D : List Nat) (G : LHeap) : Prop :=
  D = [] ∧ lk ρ 1 = .ptr 0 0 ∧ G[0]? = some (.cells x.c 0) ∧ lk ρ 3 = .lst (R.map .i) R.length 1 ∧ lk ρ 4 = .lst (W.map .i) W.length 1 ∧ lk ρ 5 = .i fr ∧ lk ρ 6 = .i fw
theorem law05_InstKinds_run (x : In) (hi : inI x.imm) (hd : inI x.disp) : CallL Try.prog (.fn 5) [.agg x.c] [] fun v _ => v = .bool true := by
  refine call_body r_law05_InstKinds k_law05_InstKinds (by simp) ?_
  rw [c_law05_InstKinds, wp_assoc, wp_assoc, wp_assoc, wp_assoc]
  have hC : x.c = [.i x.op, .i x.d, .i x.s, .i x.t, .i x.base, .i x.index, .i x.scale, .i x.disp, .i x.imm] := rfl
  have hR := Reads_ok x hi hd
  have hW := Writes_ok x hi hd
  have hF := Flags_ok x hi hd
  have hJ := Jump_ok x hi hd
  cases hk : checkB x with
  | false =>
    simp only [hk, Bool.false_eq_true, if_false, regsOf_nil, Bool.and_false] at hR hW hF hJ
    simp [hC]
    refine CallL_F law05_lives_ok (by simp) ?_
    simp
    rw [← hC]
    refine CallL_V hR rfl ?_
    simp [hC]
    rw [← hC]
    refine CallL_V hW rfl ?_
    simp [hC]
    rw [← hC]
    refine CallL_F hF (bors_self _ rfl) ?_
    simp [hC]
    rw [← hC]
    refine CallL_F (Check_ok x hi hd) (bors_self _ rfl) ?_
    simp [hk, hC]
    rw [← hC]
    refine CallL_F hJ (bors_self _ rfl) ?_
    simp
  | true =>
  simp only [hk, if_true, Bool.and_true] at hR hW hF hJ
  obtain ⟨r1, r2⟩ := reads_in hk
  obtain ⟨w1, w2⟩ := writes_in hk
  have lR := regsOf_le (rl5 x)
  have lW := regsOf_le (wl3 x)
  have hname := check_name hk
  obtain ⟨fl1, fl2⟩ := ft_flags x.op
  have gR : ∀ i, i < (regsOf (rl5 x)).length → 0 ≤ gd (regsOf (rl5 x)) i ∧ gd (regsOf (rl5 x)) i ≤ 15 := fun i h => regsOf_gd h
  have gW : ∀ i, i < (regsOf (wl3 x)).length → 0 ≤ gd (regsOf (wl3 x)) i ∧ gd (regsOf (wl3 x)) i ≤ 15 := fun i h => regsOf_gd h
  have uR : ∀ i, 0 < i → i < (regsOf (rl5 x)).length → gd (regsOf (rl5 x)) (i - 1) < gd (regsOf (rl5 x)) i := fun i h0 h => regsOf_up h0 h
  have uW : ∀ i, 0 < i → i < (regsOf (wl3 x)).length → gd (regsOf (wl3 x)) (i - 1) < gd (regsOf (wl3 x)) i := fun i h0 h => regsOf_up h0 h
  have hjn : jumpB x.op = true → (regsOf (rl5 x)).length = 0 ∧ (regsOf (wl3 x)).length = 0 ∧ (ftOf x.op).2.2.2 = 0 := fun h => by
    obtain ⟨j1, j2, j3⟩ := jump_none (x := x) (by simp only [jumpB, Bool.or_eq_true, decide_eq_true_eq] at h; exact h.elim (fun h => h.elim .inl fun h => .inr (.inl h)) fun h => .inr (.inr h))
    rw [j1, j2, regsOf_nil]
    exact ⟨rfl, rfl, j3⟩
  have hN := inst_Name_ok x.op
  generalize regsOf (rl5 x) = R at *
  generalize regsOf (wl3 x) = W at *
  generalize (ftOf x.op).2.2.1 = fr at *
  generalize (ftOf x.op).2.2.2 = fw at *
  refine wp_cut (PhiK x R W fr fw) (fun Nx hNx => ?_) (fun ρ D G hΦ => ?_)
  · simp [hC]
    refine CallL_F law05_lives_ok (by simp) ?_
    simp
    rw [← hC]
    refine CallL_V hR rfl ?_
    simp [hC]
    rw [← hC]
    refine CallL_V hW rfl ?_
    simp [hC]
    rw [← hC]
    refine CallL_F hF (bors_self _ rfl) ?_
    simp [hC]
    rw [← hC]
    refine CallL_F (Check_ok x hi hd) (bors_self _ rfl) ?_
    simp [hk]
    exact hNx _ _ _ ⟨rfl, by simp, rfl, by simp, by simp, by simp, by simp⟩
  refine wp_cut (PhiK x R W fr fw) (fun Nx hNx => ?_) (fun ρ D G hΦ => ?_)
  · obtain ⟨rfl, k1, g0, k3, k4, k5, k6⟩ := hΦ
    simp
    refine loop_nx (fun ρ D G N => ∃ i : Nat, PhiK x R W fr fw ρ D G ∧ N + i = R.length ∧ lk ρ 7 = .i i) (N := R.length) ⟨0, ⟨rfl, by simp [k1], g0, by simp [k3], by simp [k4], by simp [k5], by simp [k6]⟩, rfl, by simp⟩ ?_
    rintro N ρ D G ⟨i, ⟨rfl, k1, g0, k3, k4, k5, k6⟩, hN, k7⟩ Lx hLx
    by_cases hi : R.length ≤ i
    · have g : ¬ i < R.length := by omega
      simp [k3, k7, g]
      exact hNx _ _ _ ⟨rfl, by simp [k1], g0, by simp [k3], by simp [k4], by simp [k5], by simp [k6]⟩
    · have g : i < R.length := by omega
      have hc := map_at (f := LV.i) (at_getD (l := R) g)
      have b1 : ¬ gd R i < 0 := by have := gR i g; omega
      have b2 : ¬ 15 < gd R i := by have := gR i g; omega
      by_cases h0 : i = 0
      · subst h0
        simp [k3, k7, g]
        simp [nthL_at hc, k3, k7, g, b1, b2]
        exact hLx _ _ _ ⟨N - 1, by omega, 1, ⟨rfl, by simp [k1], g0, by simp [k3], by simp [k4], by simp [k5], by simp [k6]⟩, by omega, by simp⟩
      · have hc1 := map_at (f := LV.i) (at_getD (l := R) (u := i - 1) (by omega))
        have b3 : ¬ gd R i ≤ gd R (i - 1) := by have := uR i (by omega) g; omega
        have e1 : ((i : Int) - 1).toNat = i - 1 := by omega
        have g4 : 0 < i := by omega
        have g2 : (1 : Int) ≤ i := by omega
        have g3 : (i : Int) - 1 < R.length := by omega
        simp [k3, k7, g]
        simp [nthL_at hc, nthL_at hc1, k3, k7, g, b1, b2, b3, e1, g2, g3, g4]
        exact ⟨by omega, by omega, hLx _ _ _ ⟨N - 1, by omega, i + 1, ⟨rfl, by simp [k1], g0, by simp [k3], by simp [k4], by simp [k5], by simp [k6]⟩, by omega, by simp⟩⟩
  refine wp_cut (PhiK x R W fr fw) (fun Nx hNx => ?_) (fun ρ D G hΦ => ?_)
  · obtain ⟨rfl, k1, g0, k3, k4, k5, k6⟩ := hΦ
    simp
    refine loop_nx (fun ρ D G N => ∃ i : Nat, PhiK x R W fr fw ρ D G ∧ N + i = W.length ∧ lk ρ 8 = .i i) (N := W.length) ⟨0, ⟨rfl, by simp [k1], g0, by simp [k3], by simp [k4], by simp [k5], by simp [k6]⟩, rfl, by simp⟩ ?_
    rintro N ρ D G ⟨i, ⟨rfl, k1, g0, k3, k4, k5, k6⟩, hN, k7⟩ Lx hLx
    by_cases hi : W.length ≤ i
    · have g : ¬ i < W.length := by omega
      simp [k4, k7, g]
      exact hNx _ _ _ ⟨rfl, by simp [k1], g0, by simp [k3], by simp [k4], by simp [k5], by simp [k6]⟩
    · have g : i < W.length := by omega
      have hc := map_at (f := LV.i) (at_getD (l := W) g)
      have b1 : ¬ gd W i < 0 := by have := gW i g; omega
      have b2 : ¬ 15 < gd W i := by have := gW i g; omega
      by_cases h0 : i = 0
      · subst h0
        simp [k4, k7, g]
        simp [nthL_at hc, k4, k7, g, b1, b2]
        exact hLx _ _ _ ⟨N - 1, by omega, 1, ⟨rfl, by simp [k1], g0, by simp [k3], by simp [k4], by simp [k5], by simp [k6]⟩, by omega, by simp⟩
      · have hc1 := map_at (f := LV.i) (at_getD (l := W) (u := i - 1) (by omega))
        have b3 : ¬ gd W i ≤ gd W (i - 1) := by have := uW i (by omega) g; omega
        have e1 : ((i : Int) - 1).toNat = i - 1 := by omega
        have g4 : 0 < i := by omega
        have g2 : (1 : Int) ≤ i := by omega
        have g3 : (i : Int) - 1 < W.length := by omega
        simp [k4, k7, g]
        simp [nthL_at hc, nthL_at hc1, k4, k7, g, b1, b2, b3, e1, g2, g3, g4]
        exact ⟨by omega, by omega, hLx _ _ _ ⟨N - 1, by omega, i + 1, ⟨rfl, by simp [k1], g0, by simp [k3], by simp [k4], by simp [k5], by simp [k6]⟩, by omega, by simp⟩⟩
  · obtain ⟨rfl, k1, g0, k3, k4, k5, k6⟩ := hΦ
    simp [k1, g0, hC]
    rw [← hC]
    refine CallL_F hJ (bors_self _ rfl) ?_
    have a3 : (0 : Int) ≤ fw := by omega
    have a4 : (fw : Int) ≤ 7 := by omega
    have a5 : (W.length : Int) ≤ 2 := by omega
    have a6 : (R.length : Int) ≤ 3 := by omega
    rcases fl1 with rfl | rfl | rfl | rfl
    all_goals
      cases hj : jumpB x.op with
      | false =>
        simp [k1, g0, k3, k4, k5, k6, hC, a3, a4, a5, a6]
        refine CallL_F hN (by simp) ?_
        simp [hname, k5]
      | true =>
        obtain ⟨j1, j2, j3⟩ := hjn hj
        subst j3
        simp [k1, g0, k3, k4, k5, k6, hC, a5, a6, j1, j2]
        refine CallL_F hN (by simp) ?_
        simp [hname, k5]
end Go.Proofs.Ytbcfbojigokplaa
