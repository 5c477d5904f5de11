/- DenoteBounds, walked. -/
import Derived.Test.YtnbnhnjffiagmaaGreatFnNi
namespace Go.Proofs.YtnbnhnjffiagmaaGreat
open Go.Sv
set_option linter.unusedSimpArgs false
set_option maxRecDepth 10000
def c_law20_DenoteBounds : LC := (.seq (.ops [ .z 2 (.box (.t 0)), .z 4 (.move (.c (.bool false)))]) (.seq (.seq (.ops [ .z 9 (.callV (.c (.fn (.func 9) [] [])) []), .z 10 (.un .not (.t 9))]) (.cond (.t 10) (.seq (.ops [ .z 4 (.move (.c (.bool false)))]) .ret) .skip)) (.seq (.seq (.ops [ .z 11 (.loadN 3 (.t 2)), .z 12 (.move (.t 1)), .z 13 (.callV (.c (.fn (.func 20) [] [])) [.t 11, .t 12]), .z 14 (.un .not (.t 13))]) (.cond (.t 14) (.seq (.ops [ .z 4 (.move (.c (.bool true)))]) .ret) .skip)) (.seq (.ops [ .z 16 (.loadN 3 (.t 2)), .z 17 (.move (.t 1)), .z 18 (.callV (.c (.fn (.func 11) [] [])) [.t 16, .t 17]), .z 15 (.move (.t 18)), .z 19 (.extract 0 (.t 15)), .z 20 (.extract 1 (.t 15)), .z 5 (.move (.t 19)), .z 6 (.move (.t 20))]) (.seq (.seq (.ops [ .z 21 (.move (.t 6)), .z 22 (.bin .neq true 32 (.t 21) (.c (.i 0)))]) (.cond (.t 22) (.seq (.ops [ .z 23 (.move (.t 5)), .z 24 (.lenSl (.t 23)), .z 25 (.bin .eql true 3 (.t 24) (.c (.i 0))), .z 4 (.move (.t 25))]) .ret) .skip)) (.seq (.ops [ .z 26 (.loadN 3 (.t 2)), .z 27 (.callV (.c (.fn (.func 33) [] [])) [.t 26]), .z 7 (.move (.t 27))]) (.seq (.seq (.ops [ .z 8 (.move (.c (.i 0)))]) (.block 0 (.loop (.seq (.seq (.ops [ .z 28 (.move (.t 8)), .z 29 (.move (.t 5)), .z 30 (.lenSl (.t 29)), .z 31 (.bin .lss false 3 (.t 28) (.t 30))]) (.cond (.t 31) .skip (.exit 0))) (.seq (.block 1 (.seq (.draw [ (.z 34 (.move (.t 8)), []), (.z 35 (.move (.t 7)), []), (.z 36 (.lenSl (.t 35)), []), (.z 37 (.bin .geq false 3 (.t 34) (.t 36)), []), (.z 38 (.move (.t 37)), []), (⟨some 39, (some (38, false)), .move (.t 5)⟩, []), (⟨some 40, (some (38, false)), .move (.t 8)⟩, []), (⟨some 41, (some (38, false)), .ixAddr 1 (.t 39) (.t 40)⟩, []), (⟨some 42, (some (38, false)), .load1 (.t 41)⟩, []), (⟨some 45, (some (38, false)), .fieldAddr 0 (.t 2)⟩, []), (⟨some 46, (some (38, false)), .load1 (.t 45)⟩, []), (⟨some 47, (some (38, false)), .move (.t 7)⟩, []), (⟨some 48, (some (38, false)), .move (.t 8)⟩, []), (⟨some 49, (some (38, false)), .ixAddr 1 (.t 47) (.t 48)⟩, []), (⟨some 50, (some (38, false)), .load1 (.t 49)⟩, []), (⟨some 51, (some (38, false)), .ixAddr 3 (.t 46) (.t 50)⟩, []), (⟨some 52, (some (38, false)), .fieldAddr 0 (.t 51)⟩, []), (⟨some 53, (some (38, false)), .load1 (.t 52)⟩, []), (⟨some 43, (some (38, false)), .callV (.c (.fn (.func 34) [] [])) [.t 42]⟩, [(⟨some 53, (some (38, false)), .load1 (.t 52)⟩, false), (⟨some 50, (some (38, false)), .load1 (.t 49)⟩, false), (⟨some 46, (some (38, false)), .load1 (.t 45)⟩, false)]), (⟨some 44, (some (38, false)), .lenSl (.t 43)⟩, []), (⟨some 54, (some (38, false)), .bin .gtr false 3 (.t 44) (.t 53)⟩, []), (.z 55 (.pick (.t 38) (.c (.bool true)) (.t 54)), [])]) (.cond (.t 55) (.seq (.ops [ .z 4 (.move (.c (.bool false)))]) .ret) .skip))) (.ops [ .z 32 (.move (.t 8)), .z 33 (.bin .add true 3 (.t 32) (.c (.i 1))), .z 8 (.move (.t 33))])))))) (.seq (.ops [ .z 56 (.move (.t 5)), .z 57 (.lenSl (.t 56)), .z 58 (.move (.t 7)), .z 59 (.lenSl (.t 58)), .z 60 (.bin .eql false 3 (.t 57) (.t 59)), .z 61 (.move (.t 60)), ⟨some 62, (some (61, true)), .loadN 3 (.t 2)⟩, ⟨some 63, (some (61, true)), .move (.t 1)⟩, ⟨some 64, (some (61, true)), .callV (.c (.fn (.func 18) [] [])) [.t 62, .t 63]⟩, .z 65 (.pick (.t 61) (.t 64) (.c (.bool false))), .z 66 (.move (.t 65)), ⟨some 67, (some (66, true)), .loadN 3 (.t 2)⟩, ⟨some 68, (some (66, true)), .move (.t 1)⟩, ⟨some 69, (some (66, true)), .callV (.c (.fn (.func 30) [] [])) [.t 67, .t 68]⟩, ⟨some 70, (some (66, true)), .bin .eql true 32 (.t 69) (.c (.i 0))⟩, .z 71 (.pick (.t 66) (.t 70) (.c (.bool false))), .z 4 (.move (.t 71))]) .ret))))))))
theorem r_law20_DenoteBounds : resFn Tryz.prog 5 = some ⟨72, c_law20_DenoteBounds.r, [.tmp 4]⟩ := by kernel_rfl
theorem k_law20_DenoteBounds : c_law20_DenoteBounds.ok = true := by kernel_rfl
theorem law20_DenoteBounds_run (vs : List Vr) (os rs : List Ko) (ins : List (List UInt64)) (hl1 : vs.length ≤ 9223372036854775807) (_ : os.length ≤ 9223372036854775807) (_ : rs.length ≤ 9223372036854775807) (hn : ins.length ≤ 9223372036854775807) :
  CallL Tryz.prog (.fn 5) [.agg (kerC vs os rs), LN ins] [] fun v _ => v = .bool true := by
 have hkd : dats (kerC vs os rs) = true := by simp [kerC, dats, LV.dat, vsC_dats, osC_dats]
 have hdd : dats [.agg (kerC vs os rs), LN ins] = true := by simp [dats, LV.dat, hkd, LN, LN_dats]
 have hk3 : (kerC vs os rs).length = 3 := rfl
 have hkt : (kerC vs os rs).take 3 = kerC vs os rs := rfl
 have hk0 : (kerC vs os rs)[0]? = some (.lst (vsC vs) vs.length 3) := rfl
 refine call_body r_law20_DenoteBounds k_law20_DenoteBounds (by simp) ?_
 simp [c_law20_DenoteBounds]
 refine CallL_F law20_lives_ok (by simp) ?_
 simp [hk3, hkt]
 refine CallL_F (law20_light_ok vs os rs ins hl1 hn) (bors_self _ hdd) ?_
 cases hL : lightD vs os rs ins with
 | false => simp
 | true =>
 obtain ⟨v1, v2, v3, v4, v5, v6⟩ := lightD_parts hL
 have hi : ∀ x ∈ ins, x.length ≤ 1000 := fun x hx => by have := v5 x hx; omega
 simp [hk3, hkt]
 refine CallL_V (Run_ok vs os rs ins hl1 hi) hdd ?_
 obtain ⟨b1, b2⟩ := run_bounds (vs := vs) (os := os) (rs := rs) (ns := ins.map val)
 generalize hl0 : (runD vs os rs (ins.map val)).1 = l at *
 generalize (runD vs os rs (ins.map val)).2 = e at *
 by_cases he : e = 0
 case neg =>
  have hz := b1 he
  subst hz
  simp [he, LN]
 obtain ⟨c1, c2, c3, c4⟩ := b2 he
 obtain ⟨hc, _, _⟩ := fitD_parts c4
 have hv : varsB vs = true := by unfold chkB at hc; simp only [Bool.and_eq_true] at hc; exact hc.1
 have hz : outZ vs os rs = outV vs := by simp [outZ, hc]
 have ho := ref19_Out_ok vs os rs (by omega)
 rw [hz] at ho
 subst he
 simp [hk3, hkt, LN]
 refine CallL_V ho (by simp [dats, LV.dat, hkd]) ?_
 have hol : (outV vs).length ≤ vs.length := by rw [outV_those]; exact thoseV_len _ _ _
 simp
 refine loop_nx (fun ρ D G N => ∃ i : Nat, D = [] ∧ N + i = l.length ∧ lk ρ 1 = LN ins ∧ lk ρ 2 = .ptr 0 0 ∧ lk ρ 5 = .lst (l.map LU) l.length 1 ∧ lk ρ 7 = .lst (natC (outV vs)) (outV vs).length 1 ∧ lk ρ 8 = .i i ∧ 0 < G.length ∧ G[0]? = some (.cells (kerC vs os rs) 0)) (N := l.length) ⟨0, rfl, by omega, by simp [LN], by simp, by simp, by simp, by simp, by simp, by simp⟩ ?_
 rintro N ρ D G ⟨i, rfl, hN, h1, h2, h5, h7, h8, hl, hG⟩ Nx hNx
 by_cases g : i < l.length
 ·have g2 : i < (outV vs).length := by omega
  have q1 := natC_at g2
  have hu : (outV vs).getD i 0 < vs.length := by
   rw [List.getD_eq_getElem?_getD, List.getElem?_eq_getElem g2]
   exact outV_lt (List.getElem_mem g2)
  have hb := c2 i g g2
  have e1 : (outV vs)[i] = (outV vs).getD i 0 := by simp [List.getD_eq_getElem?_getD, g2]
  rw [e1] at hb
  generalize (outV vs).getD i 0 = u at *
  have q0 := vs_at0 (at_gv hu)
  have hlim := varsB_limbs hv _ (gv_mem hu)
  obtain ⟨x, hx⟩ : ∃ x, l[i] = x := ⟨_, rfl⟩
  rw [hx] at hb
  have hxt := toL_length_val x
  have g3 : ¬ ((outV vs).length : Int) ≤ (i : Int) := by omega
  have hlong : ¬ (gv vs u).limbs < ((toL (val x)).length : Int) := by omega
  simp [h2, h5, h7, h8, g, g2, g3, nthL_at q1, hG, hk3, nthL_at hk0, hu, nthL_at q0]
  refine CallL_F (ref02_Trim_ok x (by omega)) (by simp [hx]) ?_
  simp [RU, h2, h5, h7, h8, g, g2, g3, nthL_at q1, hG, hk3, nthL_at hk0, hu, nthL_at q0, hlong]
  exact ⟨by omega, hNx _ _ _ ⟨N - 1, by omega, i + 1, rfl, by omega, by simp [h1], by simp [h2], by simp [h5], by simp [h7], by simp, hl, hG⟩⟩
 ·have g2 : ¬ i < (outV vs).length := by omega
  simp [h1, h2, h5, h7, h8, g2, c1, hG, hk3, hkt]
  refine CallL_F (Met_ok vs os rs ins hl1 hi) (bors_self _ hdd) ?_
  simp [h1, h2, h5, h7, h8, g2, c1, hG, hk3, hkt, c3]
  refine CallL_F (Fits_ok vs os rs ins hl1 hi) (bors_self _ hdd) ?_
  simp [c4]
end Go.Proofs.YtnbnhnjffiagmaaGreat
