/- BuffersWork, walked. -/
import Derived.Test.YtknbplplhbfggaaFnBw
import Derived.Test.YtknbplplhbfggaaFnL25
namespace Go.Proofs.Ytknbplplhbfggaa
open Go.Sv
set_option linter.unusedSimpArgs false
set_option maxRecDepth 10000

def c_law25_BuffersWork : LC :=
 (.seq (.ops [
   ⟨(some 3), none, .box (.t 1)⟩,
   ⟨(some 4), none, .move (.c (.bool false))⟩])
 (.seq (.seq (.ops [
     ⟨(some 9), none, .callV (.c (.fn (.func 5) [] [])) []⟩,
     ⟨(some 10), none, .un .not (.t 9)⟩])
   (.cond (.t 10)
    (.seq (.ops [
       ⟨(some 4), none, .move (.c (.bool false))⟩])
     .ret)
    .skip))
  (.seq (.seq (.ops [
      ⟨(some 11), none, .move (.t 0)⟩,
      ⟨(some 12), none, .lenSl (.t 11)⟩,
      ⟨(some 13), none, .bin .gtr true 3 (.t 12) (.c (.i 40))⟩])
    (.cond (.t 13)
     (.seq (.ops [
        ⟨(some 4), none, .move (.c (.bool true))⟩])
      .ret)
     .skip))
   (.seq (.draw [
      (⟨(some 14), none, .move (.t 0)⟩, []),
      (⟨(some 15), none, .loadN 7 (.t 3)⟩, []),
      (⟨(some 17), none, .move (.t 0)⟩, []),
      (⟨(some 18), none, .loadN 7 (.t 3)⟩, []),
      (⟨(some 20), none, .move (.t 0)⟩, []),
      (⟨(some 21), none, .loadN 7 (.t 3)⟩, []),
      (⟨(some 16), none, .callV (.c (.fn (.func 11) [] [])) [(.t 14), (.t 15)]⟩, [(⟨(some 21), none, .loadN 7 (.t 3)⟩, false), (⟨(some 18), none, .loadN 7 (.t 3)⟩, false)]),
      (⟨(some 19), none, .callV (.c (.fn (.func 12) [] [])) [(.t 17), (.t 18)]⟩, [(⟨(some 21), none, .loadN 7 (.t 3)⟩, false)]),
      (⟨(some 22), none, .callV (.c (.fn (.func 13) [] [])) [(.t 20), (.t 21)]⟩, []),
      (⟨(some 5), none, .move (.t 16)⟩, []),
      (⟨(some 6), none, .move (.t 19)⟩, []),
      (⟨(some 7), none, .move (.t 22)⟩, [])])
    (.seq (.ops [
       ⟨(some 23), none, .move (.t 5)⟩,
       ⟨(some 24), none, .move (.t 6)⟩,
       ⟨(some 25), none, .move (.t 7)⟩,
       ⟨(some 26), none, .max3 true (.t 23) (.t 24) (.t 25)⟩,
       ⟨(some 8), none, .move (.t 26)⟩])
     (.seq (.seq (.ops [
         ⟨(some 27), none, .move (.t 5)⟩,
         ⟨(some 28), none, .bin .gtr true 3 (.t 27) (.c (.i 0))⟩,
         ⟨(some 29), none, .move (.t 28)⟩,
         ⟨(some 30), (some (29, true)), .move (.t 6)⟩,
         ⟨(some 31), (some (29, true)), .bin .gtr true 3 (.t 30) (.c (.i 0))⟩,
         ⟨(some 32), none, .pick (.t 29) (.t 31) (.c (.bool false))⟩,
         ⟨(some 33), none, .move (.t 32)⟩,
         ⟨(some 34), (some (33, false)), .move (.t 5)⟩,
         ⟨(some 35), (some (33, false)), .bin .gtr true 3 (.t 34) (.c (.i 0))⟩,
         ⟨(some 36), (some (33, false)), .move (.t 35)⟩,
         ⟨(some 37), (some (36, true)), .move (.t 7)⟩,
         ⟨(some 38), (some (36, true)), .bin .gtr true 3 (.t 37) (.c (.i 0))⟩,
         ⟨(some 39), (some (33, false)), .pick (.t 36) (.t 38) (.c (.bool false))⟩,
         ⟨(some 40), none, .pick (.t 33) (.c (.bool true)) (.t 39)⟩,
         ⟨(some 41), none, .move (.t 40)⟩,
         ⟨(some 42), (some (41, false)), .move (.t 6)⟩,
         ⟨(some 43), (some (41, false)), .bin .gtr true 3 (.t 42) (.c (.i 0))⟩,
         ⟨(some 44), (some (41, false)), .move (.t 43)⟩,
         ⟨(some 45), (some (44, true)), .move (.t 7)⟩,
         ⟨(some 46), (some (44, true)), .bin .gtr true 3 (.t 45) (.c (.i 0))⟩,
         ⟨(some 47), (some (41, false)), .pick (.t 44) (.t 46) (.c (.bool false))⟩,
         ⟨(some 48), none, .pick (.t 41) (.c (.bool true)) (.t 47)⟩])
       (.cond (.t 48)
        (.seq (.ops [
           ⟨(some 4), none, .move (.c (.bool false))⟩])
         .ret)
        .skip))
      (.seq (.seq (.ops [
          ⟨(some 49), none, .move (.t 8)⟩,
          ⟨(some 50), none, .bin .gtr true 3 (.t 49) (.c (.i 32768))⟩])
        (.cond (.t 50)
         (.ops [
           ⟨(some 8), none, .move (.c (.i 0))⟩])
         .skip))
       (.seq (.ops [
          ⟨(some 51), none, .move (.t 0)⟩,
          ⟨(some 52), none, .loadN 7 (.t 3)⟩,
          ⟨(some 53), none, .callV (.c (.fn (.func 14) [] [])) [(.t 51), (.t 52)]⟩,
          ⟨(some 54), none, .move (.t 8)⟩,
          ⟨(some 55), none, .bin .eql false 3 (.t 53) (.t 54)⟩,
          ⟨(some 4), none, .move (.t 55)⟩])
        .ret))))))))
theorem r_law25_BuffersWork : resFn Try.prog 4 = some ⟨56, c_law25_BuffersWork.r, [.tmp 4]⟩ := by kernel_rfl
theorem k_law25_BuffersWork : c_law25_BuffersWork.ok = true := by kernel_rfl



theorem workE_kind (vs : List Vr) (o : Ko) (h : 0 < workE vs o) : o.kind ≠ 12 ∧ o.kind ≠ 13 := by
  unfold workE at h
  split at h
  · rename_i hc
    simp only [Bool.and_eq_true] at hc
    have hk := hc.1
    simp [hasK] at hk
    omega
  · omega
theorem workM_kind (vs : List Vr) (o : Ko) (h : 0 < workM vs o) : o.kind = 12 := by
  unfold workM at h
  split at h
  · rename_i hc
    simp only [Bool.and_eq_true, decide_eq_true_eq] at hc
    exact hc.1
  · omega
theorem workP_kind (vs : List Vr) (o : Ko) (h : 0 < workP vs o) : o.kind = 13 := by
  unfold workP at h
  split at h
  · rename_i hc
    simp only [Bool.and_eq_true, decide_eq_true_eq] at hc
    exact hc.1
  · omega
theorem law25_BuffersWork_run (vs : List Vr) (o : Ko) (hl : vs.length ≤ 9223372036854775807) : CallL Try.prog (.fn 4) [.lst (vsC vs) vs.length 3, .agg o.f] [] fun v _ => v = .bool true := by
  refine call_body r_law25_BuffersWork k_law25_BuffersWork (by simp) ?_
  have hC : o.f = [.i o.kind, .i o.d, .i o.e, .i o.a, .i o.b, .i o.c, .u o.imm] := rfl
  have hb : ∀ {G : LHeap}, bors G [.lst (vsC vs) vs.length 3, .agg o.f] [.lst (vsC vs) vs.length 3, .agg o.f] := bors_self _ (by simp [dats, LV.dat, vsC_dats, hC])
  simp [c_law25_BuffersWork, hC]
  refine CallL_F law25_lives_ok (by simp) ?_
  by_cases g : (40 : Int) < (vs.length : Int)
  · simp [g]
  have hl2 : vs.length ≤ 1000000 := by omega
  simp [g]
  rw [← hC]
  refine CallL_F (expand_Work_ok vs o hl2) hb ?_
  simp
  refine CallL_F (montgomery_Work_ok vs o hl2) hb ?_
  simp
  refine CallL_F (power_Work_ok vs o hl2) hb ?_
  have hE := workE_kind vs o
  have hM := workM_kind vs o
  have hP := workP_kind vs o
  have x1 : 0 < workE vs o → ¬ 0 < workM vs o := fun a b => (hE a).1 (hM b)
  have x2 : 0 < workE vs o → ¬ 0 < workP vs o := fun a b => (hE a).2 (hP b)
  have x3 : 0 < workM vs o → ¬ 0 < workP vs o := fun a b => by have := hM a; have := hP b; omega
  have hw : workN vs o = if 32768 < max (workE vs o) (max (workM vs o) (workP vs o)) then 0 else max (workE vs o) (max (workM vs o) (workP vs o)) := rfl
  have hf := buffers_Work_ok vs o hl2
  generalize workE vs o = a at *
  generalize workM vs o = b at *
  generalize workP vs o = c at *
  generalize workN vs o = n at *
  have f7 : o.f.length = 7 := rfl
  have f8 : o.f.take 7 = o.f := rfl
  have fin : ∀ {G : LHeap} {K : LV → LHeap → Prop}, K (.i n) G → CallL Try.prog (.fn 14) [.lst (vsC vs) vs.length 3, .agg o.f] G K := fun k => CallL_F hf hb k
  by_cases a0 : 0 < a <;> by_cases b0 : 0 < b <;> by_cases c0 : 0 < c <;> by_cases h8 : 32768 < max a (max b c) <;> simp [a0, b0, c0, h8, f7, f8] at x1 x2 x3 hw ⊢ <;> (refine fin ?_; simp [hw])
end Go.Proofs.Ytknbplplhbfggaa
