/- Instructions: the document's registers. -/
import Derived.Test.YtbcfbojigokplaaSvG4
import Derived.Test.YtbcfbojigokplaaFnRg
namespace Go.Proofs.Ytbcfbojigokplaa
open Go.Sv
set_option linter.unusedSimpArgs false
set_option maxRecDepth 10000

def c_ref05_rising : LC :=
 (.seq (.ops [
   ⟨(some 1), none, .box (.t 0)⟩,
   ⟨(some 2), none, .move (.c .nilSl)⟩])
 (.seq (.ops [
    ⟨(some 3), none, .move (.c .nilSl)⟩])
  (.seq (.seq (.ops [
      ⟨(some 4), none, .move (.c (.i 0))⟩])
    (.block 0 (.loop (.seq (.seq (.ops [
          ⟨(some 5), none, .move (.t 4)⟩,
          ⟨(some 6), none, .bin .lss true 3 (.t 5) (.c (.i 16))⟩])
        (.cond (.t 6)
         .skip
         (.exit 0)))
       (.seq (.block 1 (.seq (.ops [
            ⟨(some 9), none, .move (.t 4)⟩,
            ⟨(some 10), none, .ixAddrArr 16 1 (.t 1) (.t 9)⟩,
            ⟨(some 11), none, .load1 (.t 10)⟩])
          (.cond (.t 11)
           (.ops [
             ⟨(some 12), none, .move (.t 3)⟩,
             ⟨(some 13), none, .move (.t 4)⟩,
             ⟨(some 14), none, .buildSl 1 1 [(.i 0)] [(0, 1, (.t 13))]⟩,
             ⟨(some 15), none, .appG 1 (.t 12) (.t 14)⟩,
             ⟨(some 3), none, .move (.t 15)⟩])
           .skip)))
        (.ops [
          ⟨(some 7), none, .move (.t 4)⟩,
          ⟨(some 8), none, .bin .add true 3 (.t 7) (.c (.i 1))⟩,
          ⟨(some 4), none, .move (.t 8)⟩]))))))
   (.seq (.ops [
      ⟨(some 16), none, .move (.t 3)⟩,
      ⟨(some 2), none, .move (.t 16)⟩])
    .ret))))
theorem r_ref05_rising : resFn Try.prog 36 = some ⟨17, c_ref05_rising.r, [.tmp 2]⟩ := by kernel_rfl
theorem k_ref05_rising : c_ref05_rising.ok = true := by kernel_rfl

def c_ref05_Reads : LC :=
 (.seq (.ops [
   ⟨(some 1), none, .box (.t 0)⟩,
   ⟨(some 2), none, .move (.c .nilSl)⟩])
 (.seq (.seq (.ops [
     ⟨(some 5), none, .loadN 9 (.t 1)⟩,
     ⟨(some 6), none, .callV (.c (.fn (.func 20) [] [])) [(.t 5)]⟩,
     ⟨(some 7), none, .bin .neq true 27 (.t 6) (.c (.i 0))⟩])
   (.cond (.t 7)
    (.seq (.ops [
       ⟨(some 2), none, .move (.c .nilSl)⟩])
     .ret)
    .skip))
  (.seq (.ops [
     ⟨(some 3), none, .alloc [(.bool false), (.bool false), (.bool false), (.bool false), (.bool false), (.bool false), (.bool false), (.bool false), (.bool false), (.bool false), (.bool false), (.bool false), (.bool false), (.bool false), (.bool false), (.bool false)]⟩])
   (.seq (.ops [
      ⟨(some 8), none, .fieldAddr 0 (.t 1)⟩,
      ⟨(some 9), none, .load1 (.t 8)⟩,
      ⟨(some 10), none, .callV (.c (.fn (.func 16) [] [])) [(.t 9)]⟩,
      ⟨(some 4), none, .move (.t 10)⟩])
    (.seq (.seq (.ops [
        ⟨(some 11), none, .move (.t 4)⟩,
        ⟨(some 12), none, .callV (.c (.fn (.func 32) [] [])) [(.t 11), (.c (.b 83))]⟩,
        ⟨(some 13), none, .move (.t 12)⟩,
        ⟨(some 14), (some (13, true)), .fieldAddr 0 (.t 1)⟩,
        ⟨(some 15), (some (13, true)), .load1 (.t 14)⟩,
        ⟨(some 16), (some (13, true)), .bin .neq true 3 (.t 15) (.c (.i 19))⟩,
        ⟨(some 17), none, .pick (.t 13) (.t 16) (.c (.bool false))⟩])
      (.cond (.t 17)
       (.ops [
         ⟨(some 18), none, .fieldAddr 2 (.t 1)⟩,
         ⟨(some 19), none, .load1 (.t 18)⟩,
         ⟨(some 20), none, .ixAddrArr 16 1 (.t 3) (.t 19)⟩,
         ⟨none, none, .store 1 (.t 20) (.c (.bool true))⟩])
       .skip))
     (.seq (.seq (.ops [
         ⟨(some 21), none, .move (.t 4)⟩,
         ⟨(some 22), none, .callV (.c (.fn (.func 32) [] [])) [(.t 21), (.c (.b 84))]⟩])
       (.cond (.t 22)
        (.ops [
          ⟨(some 23), none, .fieldAddr 3 (.t 1)⟩,
          ⟨(some 24), none, .load1 (.t 23)⟩,
          ⟨(some 25), none, .ixAddrArr 16 1 (.t 3) (.t 24)⟩,
          ⟨none, none, .store 1 (.t 25) (.c (.bool true))⟩,
          ⟨(some 26), none, .ixAddrArr 16 1 (.t 3) (.c (.i 2))⟩,
          ⟨none, none, .store 1 (.t 26) (.c (.bool true))⟩])
        .skip))
      (.seq (.seq (.ops [
          ⟨(some 27), none, .move (.t 4)⟩,
          ⟨(some 28), none, .callV (.c (.fn (.func 32) [] [])) [(.t 27), (.c (.b 77))]⟩])
        (.cond (.t 28)
         (.seq (.ops [
            ⟨(some 29), none, .fieldAddr 4 (.t 1)⟩,
            ⟨(some 30), none, .fieldAddr 0 (.t 29)⟩,
            ⟨(some 31), none, .load1 (.t 30)⟩,
            ⟨(some 32), none, .ixAddrArr 16 1 (.t 3) (.t 31)⟩,
            ⟨none, none, .store 1 (.t 32) (.c (.bool true))⟩])
          (.seq (.ops [
             ⟨(some 33), none, .fieldAddr 4 (.t 1)⟩,
             ⟨(some 34), none, .fieldAddr 1 (.t 33)⟩,
             ⟨(some 35), none, .load1 (.t 34)⟩,
             ⟨(some 36), none, .bin .neq true 3 (.t 35) (.c (.i (-1)))⟩])
           (.cond (.t 36)
            (.ops [
              ⟨(some 37), none, .fieldAddr 4 (.t 1)⟩,
              ⟨(some 38), none, .fieldAddr 1 (.t 37)⟩,
              ⟨(some 39), none, .load1 (.t 38)⟩,
              ⟨(some 40), none, .ixAddrArr 16 1 (.t 3) (.t 39)⟩,
              ⟨none, none, .store 1 (.t 40) (.c (.bool true))⟩])
            .skip)))
         .skip))
       (.seq (.seq (.ops [
           ⟨(some 41), none, .move (.t 4)⟩,
           ⟨(some 42), none, .callV (.c (.fn (.func 32) [] [])) [(.t 41), (.c (.b 68))]⟩,
           ⟨(some 43), none, .move (.t 42)⟩,
           ⟨(some 44), (some (43, true)), .fieldAddr 0 (.t 1)⟩,
           ⟨(some 45), (some (43, true)), .load1 (.t 44)⟩,
           ⟨(some 46), (some (43, true)), .bin .neq true 3 (.t 45) (.c (.i 1))⟩,
           ⟨(some 47), none, .pick (.t 43) (.t 46) (.c (.bool false))⟩,
           ⟨(some 48), none, .move (.t 47)⟩,
           ⟨(some 49), (some (48, true)), .fieldAddr 0 (.t 1)⟩,
           ⟨(some 50), (some (48, true)), .load1 (.t 49)⟩,
           ⟨(some 51), (some (48, true)), .bin .neq true 3 (.t 50) (.c (.i 2))⟩,
           ⟨(some 52), none, .pick (.t 48) (.t 51) (.c (.bool false))⟩,
           ⟨(some 53), none, .move (.t 52)⟩,
           ⟨(some 54), (some (53, true)), .fieldAddr 0 (.t 1)⟩,
           ⟨(some 55), (some (53, true)), .load1 (.t 54)⟩,
           ⟨(some 56), (some (53, true)), .bin .neq true 3 (.t 55) (.c (.i 3))⟩,
           ⟨(some 57), none, .pick (.t 53) (.t 56) (.c (.bool false))⟩,
           ⟨(some 58), none, .move (.t 57)⟩,
           ⟨(some 59), (some (58, true)), .fieldAddr 0 (.t 1)⟩,
           ⟨(some 60), (some (58, true)), .load1 (.t 59)⟩,
           ⟨(some 61), (some (58, true)), .bin .neq true 3 (.t 60) (.c (.i 5))⟩,
           ⟨(some 62), none, .pick (.t 58) (.t 61) (.c (.bool false))⟩,
           ⟨(some 63), none, .move (.t 62)⟩,
           ⟨(some 64), (some (63, true)), .fieldAddr 0 (.t 1)⟩,
           ⟨(some 65), (some (63, true)), .load1 (.t 64)⟩,
           ⟨(some 66), (some (63, true)), .bin .neq true 3 (.t 65) (.c (.i 19))⟩,
           ⟨(some 67), none, .pick (.t 63) (.t 66) (.c (.bool false))⟩,
           ⟨(some 68), none, .move (.t 67)⟩,
           ⟨(some 69), (some (68, true)), .fieldAddr 0 (.t 1)⟩,
           ⟨(some 70), (some (68, true)), .load1 (.t 69)⟩,
           ⟨(some 71), (some (68, true)), .bin .neq true 3 (.t 70) (.c (.i 29))⟩,
           ⟨(some 72), none, .pick (.t 68) (.t 71) (.c (.bool false))⟩])
         (.cond (.t 72)
          (.ops [
            ⟨(some 73), none, .fieldAddr 1 (.t 1)⟩,
            ⟨(some 74), none, .load1 (.t 73)⟩,
            ⟨(some 75), none, .ixAddrArr 16 1 (.t 3) (.t 74)⟩,
            ⟨none, none, .store 1 (.t 75) (.c (.bool true))⟩])
          .skip))
        (.seq (.seq (.ops [
            ⟨(some 76), none, .fieldAddr 0 (.t 1)⟩,
            ⟨(some 77), none, .load1 (.t 76)⟩,
            ⟨(some 78), none, .bin .eql true 3 (.t 77) (.c (.i 28))⟩,
            ⟨(some 79), none, .move (.t 78)⟩,
            ⟨(some 80), (some (79, false)), .fieldAddr 0 (.t 1)⟩,
            ⟨(some 81), (some (79, false)), .load1 (.t 80)⟩,
            ⟨(some 82), (some (79, false)), .bin .eql true 3 (.t 81) (.c (.i 29))⟩,
            ⟨(some 83), none, .pick (.t 79) (.c (.bool true)) (.t 82)⟩,
            ⟨(some 84), none, .move (.t 83)⟩,
            ⟨(some 85), (some (84, false)), .fieldAddr 0 (.t 1)⟩,
            ⟨(some 86), (some (84, false)), .load1 (.t 85)⟩,
            ⟨(some 87), (some (84, false)), .bin .eql true 3 (.t 86) (.c (.i 33))⟩,
            ⟨(some 88), none, .pick (.t 84) (.c (.bool true)) (.t 87)⟩])
          (.cond (.t 88)
           (.ops [
             ⟨(some 89), none, .ixAddrArr 16 1 (.t 3) (.c (.i 4))⟩,
             ⟨none, none, .store 1 (.t 89) (.c (.bool true))⟩])
           .skip))
         (.seq (.ops [
            ⟨(some 90), none, .loadN 16 (.t 3)⟩,
            ⟨(some 91), none, .callV (.c (.fn (.func 36) [] [])) [(.t 90)]⟩,
            ⟨(some 2), none, .move (.t 91)⟩])
          .ret))))))))))
theorem r_ref05_Reads : resFn Try.prog 21 = some ⟨92, c_ref05_Reads.r, [.tmp 2]⟩ := by kernel_rfl
theorem k_ref05_Reads : c_ref05_Reads.ok = true := by kernel_rfl

def c_ref05_Writes : LC :=
 (.seq (.ops [
   ⟨(some 1), none, .box (.t 0)⟩,
   ⟨(some 2), none, .move (.c .nilSl)⟩])
 (.seq (.seq (.ops [
     ⟨(some 5), none, .loadN 9 (.t 1)⟩,
     ⟨(some 6), none, .callV (.c (.fn (.func 20) [] [])) [(.t 5)]⟩,
     ⟨(some 7), none, .bin .neq true 27 (.t 6) (.c (.i 0))⟩])
   (.cond (.t 7)
    (.seq (.ops [
       ⟨(some 2), none, .move (.c .nilSl)⟩])
     .ret)
    .skip))
  (.seq (.ops [
     ⟨(some 3), none, .alloc [(.bool false), (.bool false), (.bool false), (.bool false), (.bool false), (.bool false), (.bool false), (.bool false), (.bool false), (.bool false), (.bool false), (.bool false), (.bool false), (.bool false), (.bool false), (.bool false)]⟩])
   (.seq (.ops [
      ⟨(some 8), none, .fieldAddr 0 (.t 1)⟩,
      ⟨(some 9), none, .load1 (.t 8)⟩,
      ⟨(some 10), none, .callV (.c (.fn (.func 16) [] [])) [(.t 9)]⟩,
      ⟨(some 4), none, .move (.t 10)⟩])
    (.seq (.seq (.ops [
        ⟨(some 11), none, .move (.t 4)⟩,
        ⟨(some 12), none, .callV (.c (.fn (.func 32) [] [])) [(.t 11), (.c (.b 68))]⟩,
        ⟨(some 13), none, .move (.t 12)⟩,
        ⟨(some 14), (some (13, true)), .fieldAddr 0 (.t 1)⟩,
        ⟨(some 15), (some (13, true)), .load1 (.t 14)⟩,
        ⟨(some 16), (some (13, true)), .bin .neq true 3 (.t 15) (.c (.i 13))⟩,
        ⟨(some 17), none, .pick (.t 13) (.t 16) (.c (.bool false))⟩,
        ⟨(some 18), none, .move (.t 17)⟩,
        ⟨(some 19), (some (18, true)), .fieldAddr 0 (.t 1)⟩,
        ⟨(some 20), (some (18, true)), .load1 (.t 19)⟩,
        ⟨(some 21), (some (18, true)), .bin .neq true 3 (.t 20) (.c (.i 14))⟩,
        ⟨(some 22), none, .pick (.t 18) (.t 21) (.c (.bool false))⟩,
        ⟨(some 23), none, .move (.t 22)⟩,
        ⟨(some 24), (some (23, true)), .fieldAddr 0 (.t 1)⟩,
        ⟨(some 25), (some (23, true)), .load1 (.t 24)⟩,
        ⟨(some 26), (some (23, true)), .bin .neq true 3 (.t 25) (.c (.i 18))⟩,
        ⟨(some 27), none, .pick (.t 23) (.t 26) (.c (.bool false))⟩])
      (.cond (.t 27)
       (.ops [
         ⟨(some 28), none, .fieldAddr 1 (.t 1)⟩,
         ⟨(some 29), none, .load1 (.t 28)⟩,
         ⟨(some 30), none, .ixAddrArr 16 1 (.t 3) (.t 29)⟩,
         ⟨none, none, .store 1 (.t 30) (.c (.bool true))⟩])
       .skip))
     (.seq (.seq (.ops [
         ⟨(some 31), none, .fieldAddr 0 (.t 1)⟩,
         ⟨(some 32), none, .load1 (.t 31)⟩,
         ⟨(some 33), none, .bin .eql true 3 (.t 32) (.c (.i 19))⟩])
       (.cond (.t 33)
        (.ops [
          ⟨(some 34), none, .fieldAddr 2 (.t 1)⟩,
          ⟨(some 35), none, .load1 (.t 34)⟩,
          ⟨(some 36), none, .ixAddrArr 16 1 (.t 3) (.t 35)⟩,
          ⟨none, none, .store 1 (.t 36) (.c (.bool true))⟩])
        .skip))
      (.seq (.seq (.ops [
          ⟨(some 37), none, .fieldAddr 0 (.t 1)⟩,
          ⟨(some 38), none, .load1 (.t 37)⟩,
          ⟨(some 39), none, .bin .eql true 3 (.t 38) (.c (.i 28))⟩,
          ⟨(some 40), none, .move (.t 39)⟩,
          ⟨(some 41), (some (40, false)), .fieldAddr 0 (.t 1)⟩,
          ⟨(some 42), (some (40, false)), .load1 (.t 41)⟩,
          ⟨(some 43), (some (40, false)), .bin .eql true 3 (.t 42) (.c (.i 29))⟩,
          ⟨(some 44), none, .pick (.t 40) (.c (.bool true)) (.t 43)⟩,
          ⟨(some 45), none, .move (.t 44)⟩,
          ⟨(some 46), (some (45, false)), .fieldAddr 0 (.t 1)⟩,
          ⟨(some 47), (some (45, false)), .load1 (.t 46)⟩,
          ⟨(some 48), (some (45, false)), .bin .eql true 3 (.t 47) (.c (.i 33))⟩,
          ⟨(some 49), none, .pick (.t 45) (.c (.bool true)) (.t 48)⟩])
        (.cond (.t 49)
         (.ops [
           ⟨(some 50), none, .ixAddrArr 16 1 (.t 3) (.c (.i 4))⟩,
           ⟨none, none, .store 1 (.t 50) (.c (.bool true))⟩])
         .skip))
       (.seq (.ops [
          ⟨(some 51), none, .loadN 16 (.t 3)⟩,
          ⟨(some 52), none, .callV (.c (.fn (.func 36) [] [])) [(.t 51)]⟩,
          ⟨(some 2), none, .move (.t 52)⟩])
        .ret))))))))
theorem r_ref05_Writes : resFn Try.prog 22 = some ⟨53, c_ref05_Writes.r, [.tmp 2]⟩ := by kernel_rfl
theorem k_ref05_Writes : c_ref05_Writes.ok = true := by kernel_rfl



theorem rising_ok (S : List Int) : FnV Try.prog 36 [.agg (arrC S)] (.lst ((regsOf S).map .i) (regsOf S).length 1) := by
  refine FnV.mk (by simp only [LV.dat]; exact dats_map (fun _ => rfl) _) (call_body r_ref05_rising k_ref05_rising (by simp) ?_)
  simp [c_ref05_rising]
  refine loop_nx (fun ρ D G N => ∃ i : Nat, D = [] ∧ N + i = 16 ∧ G[0]? = some (.cells (arrC S) 0) ∧ lk ρ 1 = .ptr 0 0 ∧ lk ρ 4 = .i i ∧ RowG G (lk ρ 3) ((regsUp S i).map .i) ∧ ∀ k, lk ρ 3 ≠ .dy 0 k) (N := 16) ⟨0, rfl, rfl, rfl, by simp, by simp, .inl ⟨by simp, rfl⟩, by simp⟩ ?_
  rintro N ρ D G ⟨i, rfl, hN, g0, k1, k4, hr, n0⟩ Nx hNx
  by_cases hi : 16 ≤ i
  · have g : ¬ (i : Int) < 16 := by omega
    obtain rfl : i = 16 := by omega
    have hb := hr.bor (dats_map (fun _ => rfl) _)
    rw [List.length_map] at hb
    have hb2 : borR G (lk ρ 3) (.lst ((regsOf S).map .i) (regsOf S).length 1) := by
      rcases hr with ⟨e, _⟩ | ⟨p, k, st, e, _⟩ <;> rw [e] at hb ⊢ <;> exact hb
    simp [k4, g, -borR]
    rcases hr with ⟨e, _⟩ | ⟨p, k, st, e, _⟩ <;> rw [e] at hb2 ⊢ <;> exact hb2
  · have g : (i : Int) < 16 := by omega
    have ha := arr_at (S := S) (i := i) (by omega)
    have hs := regsUp_succ S i
    have hl := regsUp_len S i
    by_cases hm : (i : Int) ∈ S
    · rw [if_pos hm] at hs
      rw [decide_eq_true hm] at ha
      simp [k1, k4, g, g0]
      simp [nthL_at ha, k4]
      refine appL_rowG (hr.app _) rfl (by simp; omega) fun v' G' hr' hfr => ?_
      obtain ⟨a0, b0⟩ := hfr 0 _ (gapp g0 _) n0
      simp [k4]
      exact ⟨by omega, hNx _ _ _ ⟨N - 1, by omega, i + 1, rfl, by omega, a0, by simp [k1], by simp, by rw [hs]; simpa using hr', by simpa using b0⟩⟩
    · rw [if_neg hm, List.append_nil] at hs
      rw [decide_eq_false hm] at ha
      simp [k1, k4, g, g0]
      simp [nthL_at ha, k4]
      exact ⟨by omega, hNx _ _ _ ⟨N - 1, by omega, i + 1, rfl, by omega, g0, by simp [k1], by simp, by rw [hs]; simpa using hr, by simpa using n0⟩⟩
def PhiB (x : In) (S : List Int) (ρ : LEnv) (D : List Nat) (G : LHeap) : Prop := D = [] ∧ lk ρ 1 = .ptr 0 0 ∧ lk ρ 3 = .ptr 1 0 ∧ lk ρ 4 = .str (fsOf x.op) ∧ ∃ st, G = [.cells x.c 0, .cells (arrC S) st]
theorem ref05_Writes_ok (x : In) : FnV Try.prog 22 [.agg x.c] (.lst ((regsOf (if checkB x = true then wl3 x else [])).map .i) (regsOf (if checkB x = true then wl3 x else [])).length 1) := by
  refine FnV.mk (by simp only [LV.dat]; exact dats_map (fun _ => rfl) _) (call_body r_ref05_Writes k_ref05_Writes (by simp) ?_)
  rw [c_ref05_Writes, wp_assoc, wp_assoc, wp_assoc]
  have hC : x.c = [.i x.op, .i x.d, .i x.s, .i x.t, .i x.base, .i x.index, .i x.scale, .i x.disp, .i x.imm] := rfl
  obtain ⟨t1, t2, t4, t8, _⟩ := let_at x.op
  have L1 : FnS Try.prog 32 [.str (fsOf x.op), .b 68] (.bool (hasB (ftOf x.op) 1)) [] := t1 ▸ let_ok x.op 68
  have L2 : FnS Try.prog 32 [.str (fsOf x.op), .b 83] (.bool (hasB (ftOf x.op) 2)) [] := t2 ▸ let_ok x.op 83
  have L4 : FnS Try.prog 32 [.str (fsOf x.op), .b 84] (.bool (hasB (ftOf x.op) 4)) [] := t4 ▸ let_ok x.op 84
  have L8 : FnS Try.prog 32 [.str (fsOf x.op), .b 77] (.bool (hasB (ftOf x.op) 8)) [] := t8 ▸ let_ok x.op 77
  obtain ⟨e19, e256, e512, e128⟩ := rel_at x.op
  cases hk : checkB x with
  | false =>
    simp [hC]
    rw [← hC]
    refine CallL_F (ref05_Check_ok x) (bors_self _ rfl) ?_
    simp [hk, regsOf_nil]
  | true =>
  rw [if_pos rfl]
  have al := arr_length
  obtain ⟨g1, g2, g4, g8⟩ := check_parts hk
  have hf := ft_ok x.op
  simp only [formOk, Bool.and_eq_true, decide_eq_true_eq] at hf
  obtain ⟨_, _, f3, f4, f5⟩ := hf
  have g256 : hasB (ftOf x.op) 256 = true → regB x.d = true := fun q => g1 (by rw [q] at f3; simpa using f3)
  have g128 : hasB (ftOf x.op) 128 = true → regB x.d = true := fun q => g1 (by rw [q] at f4; simpa using f4)
  have g4s : hasB (ftOf x.op) 4 = true → regB x.s = true := fun q => g2 (by rw [q] at f5; simpa using f5)
  simp only [regB_iff] at g1 g2 g4 g8 g256 g128 g4s
  refine wp_cut (PhiB x []) (fun Nx hNx => ?_) (fun ρ D G hΦ => ?_)
  · simp [hC]
    rw [← hC]
    refine CallL_F (ref05_Check_ok x) (bors_self _ rfl) ?_
    simp [hk, hC]
    refine CallL_F (ref05_Form_ok x.op) (by simp) ?_
    simp
    rw [← arr_nil]
    exact hNx _ _ _ ⟨rfl, by simp, by simp, by simp, _, rfl⟩
  refine wp_cut (PhiB x (p1 x)) (fun Nx hNx => ?_) (fun ρ D G hΦ => ?_)
  · obtain ⟨rfl, k1, k3, k4, st, rfl⟩ := hΦ
    simp [k4]
    refine CallL_F L1 (by simp) ?_
    cases hb1 : hasB (ftOf x.op) 1 with
    | false =>
      have hb : hasB (ftOf x.op) 128 = false := by
        cases h : hasB (ftOf x.op) 128 with
        | false => rfl
        | true => exact absurd ((e128.2 h).1) (by simp [hb1])
      have e : p1 x = [] := by simp [p1, hb]
      simp
      exact hNx _ _ _ ⟨rfl, by simp [k1], by simp [k3], by simp [k4], st, by rw [e]⟩
    | true =>
    by_cases o13 : x.op = 13
    · have hb : hasB (ftOf x.op) 128 = false := by
        cases h : hasB (ftOf x.op) 128 with
        | false => rfl
        | true => exact absurd (.inl o13) (e128.2 h).2
      have e : p1 x = [] := by simp [p1, hb]
      simp [k1, k3, k4, hC, o13]
      exact hNx _ _ _ ⟨rfl, by simp [k1], by simp [k3], by simp [k4], st, by rw [e]; simp [hC, o13]⟩
    by_cases o14 : x.op = 14
    · have hb : hasB (ftOf x.op) 128 = false := by
        cases h : hasB (ftOf x.op) 128 with
        | false => rfl
        | true => exact absurd (.inr (.inl o14)) (e128.2 h).2
      have e : p1 x = [] := by simp [p1, hb]
      simp [k1, k3, k4, hC, o14]
      exact hNx _ _ _ ⟨rfl, by simp [k1], by simp [k3], by simp [k4], st, by rw [e]; simp [hC, o14]⟩
    by_cases o18 : x.op = 18
    · have hb : hasB (ftOf x.op) 128 = false := by
        cases h : hasB (ftOf x.op) 128 with
        | false => rfl
        | true => exact absurd (.inr (.inr (o18))) (e128.2 h).2
      have e : p1 x = [] := by simp [p1, hb]
      simp [k1, k3, k4, hC, o18]
      exact hNx _ _ _ ⟨rfl, by simp [k1], by simp [k3], by simp [k4], st, by rw [e]; simp [hC, o18]⟩
    have hb : hasB (ftOf x.op) 128 = true := e128.1 ⟨hb1, fun h => by simp only [o13, o14, o18, or_self] at h⟩
    have e : p1 x = x.d :: [] := by simp [p1, hb]
    obtain ⟨a0, a1⟩ := g128 hb
    have a2 : x.d < 16 := by omega
    simp [k1, k3, k4, hC, o13, o14, o18, a0, a2, al]
    rw [arr_set a0 a1]
    exact ⟨by omega, hNx _ _ _ ⟨rfl, by simp [k1], by simp [k3], by simp [k4], st + 1, by rw [e]; simp [hC]⟩⟩
  refine wp_cut (PhiB x (p2 x)) (fun Nx hNx => ?_) (fun ρ D G hΦ => ?_)
  · obtain ⟨rfl, k1, k3, k4, st, rfl⟩ := hΦ
    by_cases o19 : x.op = 19
    · have hb := e19.1 o19
      have e : p2 x = x.s :: p1 x := by simp [p2, hb]
      obtain ⟨a0, a1⟩ := g4s hb
      have a2 : x.s < 16 := by omega
      simp [k1, k3, k4, hC, o19, a0, a2, al]
      rw [arr_set a0 a1]
      exact ⟨by omega, hNx _ _ _ ⟨rfl, by simp [k1], by simp [k3], by simp [k4], st + 1, by rw [e]; simp [hC, o19]⟩⟩
    have hb : hasB (ftOf x.op) 4 = false := by
      cases h : hasB (ftOf x.op) 4 with
      | false => rfl
      | true => exact absurd (e19.2 h) o19
    have e : p2 x = p1 x := by simp [p2, hb]
    simp [k1, k3, k4, hC, o19]
    exact hNx _ _ _ ⟨rfl, by simp [k1], by simp [k3], by simp [k4], st, by rw [e]; simp [hC]⟩
  refine wp_cut (PhiB x (p3 x)) (fun Nx hNx => ?_) (fun ρ D G hΦ => ?_)
  · obtain ⟨rfl, k1, k3, k4, st, rfl⟩ := hΦ
    by_cases o28 : x.op = 28
    · have hb := e512.1 (.inl o28)
      have e : p3 x = 4 :: p2 x := by simp [p3, hb]
      simp [k1, k3, k4, hC, o28, al]
      rw [arr_four]
      exact hNx _ _ _ ⟨rfl, by simp [k1], by simp [k3], by simp [k4], st + 1, by rw [e]; simp [hC, o28]⟩
    by_cases o29 : x.op = 29
    · have hb := e512.1 (.inr (.inl o29))
      have e : p3 x = 4 :: p2 x := by simp [p3, hb]
      simp [k1, k3, k4, hC, o29, al]
      rw [arr_four]
      exact hNx _ _ _ ⟨rfl, by simp [k1], by simp [k3], by simp [k4], st + 1, by rw [e]; simp [hC, o29]⟩
    by_cases o33 : x.op = 33
    · have hb := e512.1 (.inr (.inr o33))
      have e : p3 x = 4 :: p2 x := by simp [p3, hb]
      simp [k1, k3, k4, hC, o33, al]
      rw [arr_four]
      exact hNx _ _ _ ⟨rfl, by simp [k1], by simp [k3], by simp [k4], st + 1, by rw [e]; simp [hC, o33]⟩
    have hb : hasB (ftOf x.op) 512 = false := by
      cases h : hasB (ftOf x.op) 512 with
      | false => rfl
      | true => rcases e512.2 h with h | h | h <;> contradiction
    have e : p3 x = p2 x := by simp [p3, hb]
    simp [k1, k3, k4, hC, o28, o29, o33]
    exact hNx _ _ _ ⟨rfl, by simp [k1], by simp [k3], by simp [k4], st, by rw [e]; simp [hC]⟩
  obtain ⟨rfl, k1, k3, k4, st, rfl⟩ := hΦ
  have hz : regsOf (p3 x) = regsOf (wl3 x) := regsOf_congr (p_mem x)
  have hR := rising_ok (p3 x)
  rw [hz] at hR
  have tk : (arrC (p3 x)).take 16 = arrC (p3 x) := List.take_of_length_le (by rw [arr_length]; omega)
  simp [k3, al, tk]
  refine CallL_V hR (by simp [dats, LV.dat, arr_dats]) ?_
  have di : dats ((regsOf (wl3 x)).map .i) = true := dats_map (fun _ => rfl) _
  simp [bor, LV.dat, di]
end Go.Proofs.Ytbcfbojigokplaa
