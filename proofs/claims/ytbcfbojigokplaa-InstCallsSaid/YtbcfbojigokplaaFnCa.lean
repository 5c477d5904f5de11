/- Instructions: the statement InstCalls: its walk. -/
import Derived.Test.YtbcfbojigokplaaFnRj
namespace Go.Proofs.Ytbcfbojigokplaa
open Go.Sv
set_option linter.unusedSimpArgs false
set_option maxRecDepth 10000

def c_law05_InstCalls : LC :=
 (.seq (.ops [
   ⟨(some 3), none, .box (.t 0)⟩,
   ⟨(some 6), none, .move (.c (.bool false))⟩])
 (.seq (.seq (.ops [
     ⟨(some 11), none, .callV (.c (.fn (.func 8) [] [])) []⟩,
     ⟨(some 12), none, .un .not (.t 11)⟩])
   (.cond (.t 12)
    (.seq (.ops [
       ⟨(some 6), none, .move (.c (.bool false))⟩])
     .ret)
    .skip))
  (.seq (.ops [
     ⟨(some 14), none, .loadN 9 (.t 3)⟩,
     ⟨(some 15), none, .callV (.c (.fn (.func 17) [] [])) [(.t 14)]⟩,
     ⟨(some 13), none, .move (.t 15)⟩,
     ⟨(some 16), none, .extract 0 (.t 13)⟩,
     ⟨(some 17), none, .extract 1 (.t 13)⟩,
     ⟨(some 7), none, .move (.t 16)⟩,
     ⟨(some 8), none, .move (.t 17)⟩])
   (.seq (.ops [
      ⟨(some 19), none, .loadN 9 (.t 3)⟩,
      ⟨(some 20), none, .callV (.c (.fn (.func 19) [] [])) [(.t 19)]⟩,
      ⟨(some 18), none, .move (.t 20)⟩,
      ⟨(some 21), none, .extract 0 (.t 18)⟩,
      ⟨(some 22), none, .extract 1 (.t 18)⟩,
      ⟨(some 9), none, .move (.t 21)⟩,
      ⟨(some 10), none, .move (.t 22)⟩])
    (.seq (.draw [
       (⟨(some 23), none, .loadN 9 (.t 3)⟩, []),
       (⟨(some 25), none, .loadN 9 (.t 3)⟩, []),
       (⟨(some 24), none, .callV (.c (.fn (.func 9) [] [])) [(.t 23)]⟩, [(⟨(some 25), none, .loadN 9 (.t 3)⟩, false)]),
       (⟨(some 26), none, .callV (.c (.fn (.func 20) [] [])) [(.t 25)]⟩, []),
       (⟨(some 27), none, .bin .eql false 27 (.t 24) (.t 26)⟩, []),
       (⟨(some 28), none, .move (.t 27)⟩, []),
       (⟨(some 29), (some (28, true)), .loadN 9 (.t 3)⟩, []),
       (⟨(some 31), (some (28, true)), .loadN 9 (.t 3)⟩, []),
       (⟨(some 30), (some (28, true)), .callV (.c (.fn (.func 12) [] [])) [(.t 29)]⟩, [(⟨(some 31), (some (28, true)), .loadN 9 (.t 3)⟩, false)]),
       (⟨(some 32), (some (28, true)), .callV (.c (.fn (.func 21) [] [])) [(.t 31)]⟩, []),
       (⟨(some 33), (some (28, true)), .callV (.c (.fn (.func 11) [] [])) [(.t 30), (.t 32)]⟩, []),
       (⟨(some 34), none, .pick (.t 28) (.t 33) (.c (.bool false))⟩, []),
       (⟨(some 35), none, .move (.t 34)⟩, []),
       (⟨(some 36), (some (35, true)), .loadN 9 (.t 3)⟩, []),
       (⟨(some 38), (some (35, true)), .loadN 9 (.t 3)⟩, []),
       (⟨(some 37), (some (35, true)), .callV (.c (.fn (.func 13) [] [])) [(.t 36)]⟩, [(⟨(some 38), (some (35, true)), .loadN 9 (.t 3)⟩, false)]),
       (⟨(some 39), (some (35, true)), .callV (.c (.fn (.func 22) [] [])) [(.t 38)]⟩, []),
       (⟨(some 40), (some (35, true)), .callV (.c (.fn (.func 11) [] [])) [(.t 37), (.t 39)]⟩, []),
       (⟨(some 41), none, .pick (.t 35) (.t 40) (.c (.bool false))⟩, []),
       (⟨(some 42), none, .move (.t 41)⟩, []),
       (⟨(some 43), (some (42, true)), .move (.t 7)⟩, []),
       (⟨(some 44), (some (42, true)), .move (.t 9)⟩, []),
       (⟨(some 45), (some (42, true)), .bin .eql false 3 (.t 43) (.t 44)⟩, []),
       (⟨(some 46), none, .pick (.t 42) (.t 45) (.c (.bool false))⟩, []),
       (⟨(some 47), none, .move (.t 46)⟩, []),
       (⟨(some 48), (some (47, true)), .move (.t 8)⟩, []),
       (⟨(some 49), (some (47, true)), .move (.t 10)⟩, []),
       (⟨(some 50), (some (47, true)), .bin .eql false 3 (.t 48) (.t 49)⟩, []),
       (⟨(some 51), none, .pick (.t 47) (.t 50) (.c (.bool false))⟩, []),
       (⟨(some 52), none, .move (.t 51)⟩, []),
       (⟨(some 53), (some (52, true)), .loadN 9 (.t 3)⟩, []),
       (⟨(some 55), (some (52, true)), .loadN 9 (.t 3)⟩, []),
       (⟨(some 54), (some (52, true)), .callV (.c (.fn (.func 18) [] [])) [(.t 53)]⟩, [(⟨(some 55), (some (52, true)), .loadN 9 (.t 3)⟩, false)]),
       (⟨(some 56), (some (52, true)), .callV (.c (.fn (.func 23) [] [])) [(.t 55)]⟩, []),
       (⟨(some 57), (some (52, true)), .bin .eql false 4 (.t 54) (.t 56)⟩, []),
       (⟨(some 58), none, .pick (.t 52) (.t 57) (.c (.bool false))⟩, []),
       (⟨(some 59), none, .move (.t 58)⟩, []),
       (⟨(some 60), (some (59, true)), .move (.t 1)⟩, []),
       (⟨(some 62), (some (59, true)), .move (.t 1)⟩, []),
       (⟨(some 61), (some (59, true)), .callV (.c (.fn (.func 14) [] [])) [(.t 60)]⟩, []),
       (⟨(some 63), (some (59, true)), .callV (.c (.fn (.func 24) [] [])) [(.t 62)]⟩, []),
       (⟨(some 64), (some (59, true)), .bin .eql false 9 (.t 61) (.t 63)⟩, []),
       (⟨(some 65), none, .pick (.t 59) (.t 64) (.c (.bool false))⟩, []),
       (⟨(some 66), none, .move (.t 65)⟩, []),
       (⟨(some 67), (some (66, true)), .move (.t 2)⟩, []),
       (⟨(some 69), (some (66, true)), .move (.t 2)⟩, []),
       (⟨(some 68), (some (66, true)), .callV (.c (.fn (.func 15) [] [])) [(.t 67)]⟩, []),
       (⟨(some 70), (some (66, true)), .callV (.c (.fn (.func 25) [] [])) [(.t 69)]⟩, []),
       (⟨(some 71), (some (66, true)), .bin .eql false 9 (.t 68) (.t 70)⟩, []),
       (⟨(some 72), none, .pick (.t 66) (.t 71) (.c (.bool false))⟩, []),
       (⟨(some 6), none, .move (.t 72)⟩, [])])
     .ret)))))
theorem r_law05_InstCalls : resFn Try.prog 7 = some ⟨73, c_law05_InstCalls.r, [.tmp 6]⟩ := by kernel_rfl
theorem k_law05_InstCalls : c_law05_InstCalls.ok = true := by kernel_rfl



theorem law05_InstCalls_run (x : In) (op r : Int) (hi : inI x.imm) (hd : inI x.disp) (_ : inI op) (_ : inI r) : CallL Try.prog (.fn 7) [.agg x.c, .i op, .i r] [] fun v _ => v = .bool true := by
  refine call_body r_law05_InstCalls k_law05_InstCalls (by simp) ?_
  have hC : x.c = [.i x.op, .i x.d, .i x.s, .i x.t, .i x.base, .i x.index, .i x.scale, .i x.disp, .i x.imm] := rfl
  have hF := Flags_ok x hi hd
  have hF2 := ref05_Flags_ok x
  have hK := Check_ok x hi hd
  have hK2 := ref05_Check_ok x
  have hR := Reads_ok x hi hd
  have hR2 := ref05_Reads_ok x
  have hW := Writes_ok x hi hd
  have hW2 := ref05_Writes_ok x
  have hJ := Jump_ok x hi hd
  have hJ2 := ref05_Jump_ok x
  have lR := regsOf_len (if checkB x = true then rl5 x else [])
  have lW := regsOf_len (if checkB x = true then wl3 x else [])
  have di : ∀ l : List Int, dats (l.map .i) = true := fun l => dats_map (fun _ => rfl) l
  generalize regsOf (if checkB x = true then rl5 x else []) = R at *
  generalize regsOf (if checkB x = true then wl3 x else []) = W at *
  generalize (if checkB x = true then ((ftOf x.op).2.2.1 : Int) else 0) = f1 at *
  generalize (if checkB x = true then ((ftOf x.op).2.2.2 : Int) else 0) = f2 at *
  generalize (if checkB x = true then (0 : Int) else 2) = e at *
  generalize (jumpB x.op && checkB x) = j at *
  simp [c_law05_InstCalls, hC]
  refine CallL_F law05_lives_ok (by simp) ?_
  simp
  rw [← hC]
  refine CallL_F hF (bors_self _ rfl) ?_
  simp [hC]
  rw [← hC]
  refine CallL_F hF2 (bors_self _ rfl) ?_
  simp [hC]
  rw [← hC]
  refine CallL_F hK (bors_self _ rfl) ?_
  simp [hC]
  rw [← hC]
  refine CallL_F hK2 (bors_self _ rfl) ?_
  simp [hC]
  rw [← hC]
  refine CallL_V hR rfl ?_
  simp [hC]
  rw [← hC]
  refine CallL_V hR2 rfl ?_
  simp
  refine CallL_F (Same_ok R R (by omega) (by omega)) (bors_self _ (by simp [dats, LV.dat, di])) ?_
  simp [hC]
  rw [← hC]
  refine CallL_V hW rfl ?_
  simp [hC]
  rw [← hC]
  refine CallL_V hW2 rfl ?_
  simp
  refine CallL_F (Same_ok W W (by omega) (by omega)) (bors_self _ (by simp [dats, LV.dat, di])) ?_
  simp [hC]
  rw [← hC]
  refine CallL_F hJ (bors_self _ rfl) ?_
  simp [hC]
  rw [← hC]
  refine CallL_F hJ2 (bors_self _ rfl) ?_
  simp [eqb]
  refine CallL_F (inst_Name_ok op) (by simp) ?_
  simp
  refine CallL_F (ref05_Name_ok op) (by simp) ?_
  simp
  refine CallL_F (inst_Register_ok r) (by simp) ?_
  simp
  refine CallL_F (ref05_Register_ok r) (by simp) ?_
  simp
end Go.Proofs.Ytbcfbojigokplaa
