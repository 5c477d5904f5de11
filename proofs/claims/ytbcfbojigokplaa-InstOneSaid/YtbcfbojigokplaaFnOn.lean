/- Instructions: the statement InstOne: its walk. -/
import Derived.Test.YtbcfbojigokplaaFnSm
namespace Go.Proofs.Ytbcfbojigokplaa
open Go.Sv
set_option linter.unusedSimpArgs false
set_option maxRecDepth 10000

def c_law05_InstOne : LC :=
 (.seq (.ops [
   ⟨(some 3), none, .box (.t 0)⟩,
   ⟨(some 6), none, .move (.c (.bool false))⟩])
 (.seq (.seq (.ops [
     ⟨(some 9), none, .callV (.c (.fn (.func 8) [] [])) []⟩,
     ⟨(some 10), none, .un .not (.t 9)⟩])
   (.cond (.t 10)
    (.seq (.ops [
       ⟨(some 6), none, .move (.c (.bool false))⟩])
     .ret)
    .skip))
  (.seq (.seq (.ops [
      ⟨(some 11), none, .loadN 9 (.t 3)⟩,
      ⟨(some 12), none, .callV (.c (.fn (.func 9) [] [])) [(.t 11)]⟩,
      ⟨(some 13), none, .bin .neq true 27 (.t 12) (.c (.i 0))⟩])
    (.cond (.t 13)
     (.seq (.ops [
        ⟨(some 6), none, .move (.c (.bool true))⟩])
      .ret)
     .skip))
   (.seq (.ops [
      ⟨(some 14), none, .loadN 9 (.t 3)⟩,
      ⟨(some 7), none, .alloc [(.i 0), (.i 0), (.i 0), (.i 0), (.i 0), (.i 0), (.i 0), (.i 0), (.i 0)]⟩,
      ⟨none, none, .store 9 (.t 7) (.t 14)⟩])
    (.seq (.seq (.ops [
        ⟨(some 15), none, .move (.t 1)⟩,
        ⟨(some 16), none, .callV (.c (.fn (.func 10) [] [])) [(.t 15), (.c (.i 5))]⟩])
      (.block 0 (.seq (.ops [
          ⟨(some 21), none, .bin .eql true 3 (.t 16) (.c (.i 0))⟩,
          ⟨(some 20), none, .move (.t 21)⟩])
        (.cond (.t 20)
         (.ops [
           ⟨(some 22), none, .move (.t 2)⟩,
           ⟨(some 23), none, .bin .rem true 2 (.t 22) (.c (.i 20))⟩,
           ⟨(some 24), none, .fieldAddr 1 (.t 7)⟩,
           ⟨none, none, .store 1 (.t 24) (.t 23)⟩])
         (.seq (.ops [
            ⟨(some 26), none, .bin .eql true 3 (.t 16) (.c (.i 1))⟩,
            ⟨(some 25), none, .move (.t 26)⟩])
          (.cond (.t 25)
           (.ops [
             ⟨(some 27), none, .move (.t 2)⟩,
             ⟨(some 28), none, .bin .rem true 2 (.t 27) (.c (.i 20))⟩,
             ⟨(some 29), none, .fieldAddr 2 (.t 7)⟩,
             ⟨none, none, .store 1 (.t 29) (.t 28)⟩])
           (.seq (.ops [
              ⟨(some 31), none, .bin .eql true 3 (.t 16) (.c (.i 2))⟩,
              ⟨(some 30), none, .move (.t 31)⟩])
            (.cond (.t 30)
             (.ops [
               ⟨(some 32), none, .move (.t 2)⟩,
               ⟨(some 33), none, .bin .rem true 2 (.t 32) (.c (.i 20))⟩,
               ⟨(some 34), none, .fieldAddr 3 (.t 7)⟩,
               ⟨none, none, .store 1 (.t 34) (.t 33)⟩])
             (.seq (.ops [
                ⟨(some 36), none, .bin .eql true 3 (.t 16) (.c (.i 3))⟩,
                ⟨(some 35), none, .move (.t 36)⟩])
              (.cond (.t 35)
               (.ops [
                 ⟨(some 37), none, .move (.t 2)⟩,
                 ⟨(some 38), none, .fieldAddr 8 (.t 7)⟩,
                 ⟨none, none, .store 1 (.t 38) (.t 37)⟩])
               (.ops [
                 ⟨(some 17), none, .move (.t 2)⟩,
                 ⟨(some 18), none, .fieldAddr 4 (.t 7)⟩,
                 ⟨(some 19), none, .fieldAddr 3 (.t 18)⟩,
                 ⟨none, none, .store 1 (.t 19) (.t 17)⟩])))))))))))
     (.seq (.seq (.ops [
         ⟨(some 39), none, .loadN 9 (.t 7)⟩,
         ⟨(some 40), none, .loadN 9 (.t 3)⟩,
         ⟨(some 41), none, .bin .eql false 25 (.t 39) (.t 40)⟩,
         ⟨(some 42), none, .move (.t 41)⟩,
         ⟨(some 43), (some (42, false)), .loadN 9 (.t 7)⟩,
         ⟨(some 44), (some (42, false)), .callV (.c (.fn (.func 9) [] [])) [(.t 43)]⟩,
         ⟨(some 45), (some (42, false)), .bin .neq true 27 (.t 44) (.c (.i 0))⟩,
         ⟨(some 46), none, .pick (.t 42) (.c (.bool true)) (.t 45)⟩])
       (.cond (.t 46)
        (.seq (.ops [
           ⟨(some 6), none, .move (.c (.bool true))⟩])
         .ret)
        .skip))
      (.seq (.draw [
         (⟨(some 47), none, .loadN 9 (.t 7)⟩, []),
         (⟨(some 49), none, .loadN 9 (.t 3)⟩, []),
         (⟨(some 48), none, .callV (.c (.fn (.func 12) [] [])) [(.t 47)]⟩, [(⟨(some 49), none, .loadN 9 (.t 3)⟩, false)]),
         (⟨(some 50), none, .callV (.c (.fn (.func 12) [] [])) [(.t 49)]⟩, []),
         (⟨(some 51), none, .callV (.c (.fn (.func 11) [] [])) [(.t 48), (.t 50)]⟩, []),
         (⟨(some 52), none, .move (.t 51)⟩, []),
         (⟨(some 53), (some (52, true)), .loadN 9 (.t 7)⟩, []),
         (⟨(some 55), (some (52, true)), .loadN 9 (.t 3)⟩, []),
         (⟨(some 54), (some (52, true)), .callV (.c (.fn (.func 13) [] [])) [(.t 53)]⟩, [(⟨(some 55), (some (52, true)), .loadN 9 (.t 3)⟩, false)]),
         (⟨(some 56), (some (52, true)), .callV (.c (.fn (.func 13) [] [])) [(.t 55)]⟩, []),
         (⟨(some 57), (some (52, true)), .callV (.c (.fn (.func 11) [] [])) [(.t 54), (.t 56)]⟩, []),
         (⟨(some 58), none, .pick (.t 52) (.t 57) (.c (.bool false))⟩, []),
         (⟨(some 8), none, .move (.t 58)⟩, [])])
       (.seq (.draw [
          (⟨(some 59), none, .fieldAddr 0 (.t 7)⟩, []),
          (⟨(some 60), none, .load1 (.t 59)⟩, []),
          (⟨(some 62), none, .fieldAddr 0 (.t 3)⟩, []),
          (⟨(some 63), none, .load1 (.t 62)⟩, []),
          (⟨(some 61), none, .callV (.c (.fn (.func 14) [] [])) [(.t 60)]⟩, [(⟨(some 63), none, .load1 (.t 62)⟩, false)]),
          (⟨(some 64), none, .callV (.c (.fn (.func 14) [] [])) [(.t 63)]⟩, []),
          (⟨(some 65), none, .bin .eql false 9 (.t 61) (.t 64)⟩, []),
          (⟨(some 66), none, .move (.t 65)⟩, []),
          (⟨(some 67), (some (66, true)), .move (.t 1)⟩, []),
          (⟨(some 68), (some (66, true)), .callV (.c (.fn (.func 10) [] [])) [(.t 67), (.c (.i 5))]⟩, []),
          (⟨(some 69), (some (66, true)), .bin .lss true 3 (.t 68) (.c (.i 3))⟩, []),
          (⟨(some 70), (some (66, true)), .move (.t 69)⟩, []),
          (⟨(some 71), (some (70, false)), .move (.t 8)⟩, []),
          (⟨(some 72), (some (66, true)), .pick (.t 70) (.c (.bool true)) (.t 71)⟩, []),
          (⟨(some 73), none, .pick (.t 66) (.t 72) (.c (.bool false))⟩, []),
          (⟨(some 6), none, .move (.t 73)⟩, [])])
        .ret))))))))
theorem r_law05_InstOne : resFn Try.prog 3 = some ⟨74, c_law05_InstOne.r, [.tmp 6]⟩ := by kernel_rfl
theorem k_law05_InstOne : c_law05_InstOne.ok = true := by kernel_rfl



theorem rd_dat (x : In) : dats [.agg x.c] = true := rfl
theorem law05_InstOne_run (x : In) (part n : Int) (hi : inI x.imm) (hd : inI x.disp) (_ : inI part) (hn : inI n) : CallL Try.prog (.fn 3) [.agg x.c, .i part, .i n] [] fun v _ => v = .bool true := by
  refine call_body r_law05_InstOne k_law05_InstOne (by simp) ?_
  rw [c_law05_InstOne, wp_assoc, wp_assoc, wp_assoc, wp_assoc]
  have hC : ∀ x : In, x.c = [.i x.op, .i x.d, .i x.s, .i x.t, .i x.base, .i x.index, .i x.scale, .i x.disp, .i x.imm] := fun _ => rfl
  have hCm : ∀ a b c d e f g h i : Int, [LV.i a, .i b, .i c, .i d, .i e, .i f, .i g, .i h, .i i] = In.c ⟨a, b, c, d, e, f, g, h, i⟩ := fun _ _ _ _ _ _ _ _ _ => rfl
  obtain ⟨k, hk5, hpick⟩ := kit_Pick_ok part 5 (by omega)
  refine wp_cut (fun ρ D G => D = [] ∧ checkB x = true ∧ lk ρ 1 = .i part ∧ lk ρ 3 = .ptr 0 0 ∧ lk ρ 7 = .ptr 1 0 ∧ ∃ (y : In) (st : Nat), G = [.cells x.c 0, .cells y.c st] ∧ y.op = x.op ∧ (3 ≤ k → rl5 y = rl5 x ∧ wl3 y = wl3 x) ∧ inI y.imm ∧ inI y.disp) (fun Nx hNx => ?_) (fun ρ D G hΦ => ?_)
  · simp [hC]
    refine CallL_F law05_lives_ok (by simp) ?_
    simp
    rw [hCm]
    refine CallL_F (Check_ok x hi hd) (bors_self _ rfl) ?_
    cases hk : checkB x with
    | false => simp
    | true =>
    simp [hC]
    refine CallL_F hpick (by simp) ?_
    obtain rfl | rfl | rfl | rfl | rfl : k = 0 ∨ k = 1 ∨ k = 2 ∨ k = 3 ∨ k = 4 := by omega
    · simp
      exact hNx _ _ _ ⟨rfl, hk, by simp, by simp, by simp, { x with d := n.tmod 20 }, _, rfl, rfl, fun h => by omega, hi, hd⟩
    · simp
      exact hNx _ _ _ ⟨rfl, hk, by simp, by simp, by simp, { x with s := n.tmod 20 }, _, rfl, rfl, fun h => by omega, hi, hd⟩
    · simp
      exact hNx _ _ _ ⟨rfl, hk, by simp, by simp, by simp, { x with t := n.tmod 20 }, _, rfl, rfl, fun h => by omega, hi, hd⟩
    · simp
      exact hNx _ _ _ ⟨rfl, hk, by simp, by simp, by simp, { x with imm := n }, _, rfl, rfl, fun h => ⟨rfl, rfl⟩, hn, hd⟩
    · simp
      exact hNx _ _ _ ⟨rfl, hk, by simp, by simp, by simp, { x with disp := n }, _, rfl, rfl, fun h => ⟨rfl, rfl⟩, hi, hn⟩
  · obtain ⟨rfl, hk, k1, k3, k7, y, st, rfl, hop, hsame, yi, yd⟩ := hΦ
    simp [k1, k3, k7, hC]
    obtain ⟨b, hb⟩ := instEq y x
    refine ⟨b, rfl, rfl, hb, ?_⟩
    cases b with
    | true => simp
    | false =>
    simp [k1, k3, k7, hC]
    rw [hCm]
    refine CallL_F (Check_ok y yi yd) (bors_self _ rfl) ?_
    cases hky : checkB y with
    | false => simp
    | true =>
    simp [k1, k3, k7, hC]
    have hry := Reads_ok y yi yd
    have hrx := Reads_ok x hi hd
    have hwy := Writes_ok y yi yd
    have hwx := Writes_ok x hi hd
    simp only [hky, hk, if_true] at hry hrx hwy hwx
    have l1 := regsOf_len (rl5 y)
    have l2 := regsOf_len (rl5 x)
    have l3 := regsOf_len (wl3 y)
    have l4 := regsOf_len (wl3 x)
    have same2 : 3 ≤ k → regsOf (rl5 y) = regsOf (rl5 x) ∧ regsOf (wl3 y) = regsOf (wl3 x) := fun h => by rw [(hsame h).1, (hsame h).2]; exact ⟨rfl, rfl⟩
    have di : ∀ l : List Int, dats (l.map .i) = true := fun l => dats_map (fun _ => rfl) l
    have nm : FnS Try.prog 14 [.i y.op] (.str (ftOf x.op).1) [] := hop ▸ inst_Name_ok y.op
    generalize regsOf (rl5 y) = ry at *
    generalize regsOf (rl5 x) = rx at *
    generalize regsOf (wl3 y) = wy at *
    generalize regsOf (wl3 x) = wx at *
    have fin : ∀ b : Bool, (3 ≤ k → b = true) → (decide ((k : Int) < 3) || b) = true := fun b h => by
      by_cases q : k < 3
      · rw [decide_eq_true (by omega)]; rfl
      · rw [h (by omega)]; simp
    refine CallL_V hry rfl ?_
    simp [k1, k3, k7, hC]
    refine CallL_V hrx rfl ?_
    simp [k1, k3, k7, hC]
    refine CallL_F (Same_ok ry rx (by omega) (by omega)) (bors_self _ (by simp [dats, LV.dat, di])) ?_
    by_cases s1 : ry = rx
    case neg =>
      have hk3 : (k : Int) < 3 := Classical.not_not.1 fun h => s1 (same2 (by omega)).1
      simp [s1, k1, k3, k7, hC]
      refine CallL_F nm (by simp) ?_
      simp [k1, k3, k7, hC]
      refine CallL_F (inst_Name_ok x.op) (by simp) ?_
      simp [k1]
      refine CallL_F hpick (by simp) ?_
      simp [hk3]
    simp [s1, k1, k3, k7, hC]
    refine CallL_V hwy rfl ?_
    simp [k1, k3, k7, hC]
    refine CallL_V hwx rfl ?_
    simp [k1, k3, k7, hC]
    refine CallL_F (Same_ok wy wx (by omega) (by omega)) (bors_self _ (by simp [dats, LV.dat, di])) ?_
    have fin2 := fin (decide (wy = wx)) fun h => by simp [(same2 h).2]
    generalize decide (wy = wx) = sb at *
    simp [k1, k3, k7, hC]
    refine CallL_F nm (by simp) ?_
    simp [k1, k3, k7, hC]
    refine CallL_F (inst_Name_ok x.op) (by simp) ?_
    simp [k1]
    refine CallL_F hpick (by simp) ?_
    by_cases hk3 : (k : Int) < 3
    · simp [hk3]
    · rw [decide_eq_false hk3, Bool.false_or] at fin2
      simp [hk3, fin2]
end Go.Proofs.Ytbcfbojigokplaa
