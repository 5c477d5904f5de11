/- Chapter 20: what its statements share. -/
import Derived.Test.YtnbnhnjffiagmaaGreatFnNh
import Derived.Test.YtnbnhnjffiagmaaGreatFnL20
namespace Go.Proofs.YtnbnhnjffiagmaaGreat
open Go.Sv
set_option linter.unusedSimpArgs false
set_option maxRecDepth 10000
def c_law20_light : LC := (.seq (.ops [.z 2 (.box (.t 0)),.z 4 (.move (.c (.bool false)))]) (.seq (.ops [.z 5 (.loadN 3 (.t 2)),.z 6 (.callV (.c (.fn (.func 54) [] [])) [.t 5,.c (.i 30),.c (.i 12),.c (.i 40)]),.m 7 6,⟨some 8,(some (7,true)),.move (.t 1)⟩,⟨some 9,(some (7,true)),.callV (.c (.fn (.func 21) [] [])) [.t 8,.c (.i 14),.c (.i 14)]⟩,.z 10 (.pick (.t 7) (.t 9) (.c (.bool false))),.m 11 10,⟨some 12,(some (11,true)),.loadN 3 (.t 2)⟩,⟨some 13,(some (11,true)),.callV (.c (.fn (.func 37) [] [])) [.t 12]⟩,⟨some 14,(some (11,true)),.bin .neq true 32 (.t 13) (.c (.i 0))⟩,⟨some 15,(some (11,true)),.move (.t 14)⟩,⟨some 16,(some (15,false)),.loadN 3 (.t 2)⟩,⟨some 17,(some (15,false)),.callV (.c (.fn (.func 29) [] [])) [.t 16]⟩,⟨some 18,(some (15,false)),.bin .leq true 3 (.t 17) (.c (.i 300))⟩,⟨some 19,(some (11,true)),.pick (.t 15) (.c (.bool true)) (.t 18)⟩,.z 20 (.pick (.t 11) (.t 19) (.c (.bool false))),.m 4 20]) .ret))
theorem r_law20_light : resFn Tryz.prog 20 = some ⟨21, c_law20_light.r, [.tmp 4]⟩ := by kernel_rfl
theorem k_law20_light : c_law20_light.ok = true := by kernel_rfl
def lightB (vs : List Vr) (os rs : List Ko) : Bool := vs.all (fun v => decide (v.limbs ≤ 12)) && (decide ((vs.length : Int) ≤ 30) && (decide ((os.length : Int) ≤ 40) && decide ((rs.length : Int) ≤ 40)))
noncomputable def lightD (vs : List Vr) (os rs : List Ko) (ins : List (List UInt64)) : Bool := lightB vs os rs && (decide (ins.length ≤ (14 : Int) ∧ ∀ x ∈ ins, (x.length : Int) ≤ 14) && (!chkB vs os rs || decide (stepsN20 vs os rs ≤ 300)))
theorem law20_light_ok (vs : List Vr) (os rs : List Ko) (ins : List (List UInt64)) (hl : vs.length ≤ 9223372036854775807) (hn : ins.length ≤ 9223372036854775807) : FnS Tryz.prog 20 [.agg (kerC vs os rs), LN ins] (.bool (lightD vs os rs ins)) [] := by
 have hkd : dats (kerC vs os rs) = true := by simp [kerC, dats, LV.dat, vsC_dats, osC_dats]
 have hk3 : (kerC vs os rs).length = 3 := rfl
 have hkt : (kerC vs os rs).take 3 = kerC vs os rs := rfl
 refine FnS.val rfl (call_body r_law20_light k_law20_light (by simp) ?_)
 simp [c_law20_light, hk3, hkt]
 refine CallL_F (LightKern_ok vs os rs 30 12 40 hl) (bors_self _ (by simp [dats, LV.dat, hkd])) ?_
 rw [show (vs.all (fun v => decide (v.limbs ≤ 12)) && (decide ((vs.length : Int) ≤ 30) && (decide ((os.length : Int) ≤ 40) && decide ((rs.length : Int) ≤ 40)))) = lightB vs os rs from rfl]
 unfold lightD
 have hLN := kit_LightNats_ok ins 14 14 hn
 generalize decide (ins.length ≤ (14 : Int) ∧ ∀ x ∈ ins, (x.length : Int) ≤ 14) = B at *
 cases lightB vs os rs with
 | false => simp
 | true =>
 simp
 refine CallL_F hLN (bors_self _ (by simp [dats, LV.dat, LN, LN_dats])) ?_
 cases B with
 | false => simp
 | true =>
 simp [hk3, hkt]
 refine CallL_F (ref19_Check_ok vs os rs hl) (bors_self _ (by simp [dats, LV.dat, hkd])) ?_
 cases hc : chkB vs os rs with
 | false => simp [chkE, hc]
 | true =>
 simp [chkE, hc, hk3, hkt]
 refine CallL_F (ref20_Steps_ok vs os rs hl) (bors_self _ (by simp [dats, LV.dat, hkd])) ?_
 by_cases hs : stepsN20 vs os rs ≤ 300
 ·have hs' : ((stepsN20 vs os rs : Nat) : Int) ≤ 300 := by omega
  simp [hs, hs']
 ·have hs' : ¬ ((stepsN20 vs os rs : Nat) : Int) ≤ 300 := by omega
  simp [hs, hs']
theorem lightD_parts {vs : List Vr} {os rs : List Ko} {ins : List (List UInt64)} (h : lightD vs os rs ins = true) : vs.length ≤ 30 ∧ os.length ≤ 40 ∧ rs.length ≤ 40 ∧ ins.length ≤ 14 ∧ (∀ x ∈ ins, x.length ≤ 14) ∧ (chkB vs os rs = true → stepsN20 vs os rs ≤ 300) := by
 unfold lightD lightB at h
 simp only [Bool.and_eq_true, decide_eq_true_eq, Bool.or_eq_true, Bool.not_eq_true'] at h
 obtain ⟨⟨_, h1, h2, h3⟩, ⟨h4, h5⟩, h6⟩ := h
 refine ⟨by omega, by omega, by omega, by omega, fun x hx => by have := h5 x hx; omega, fun hc => ?_⟩
 rcases h6 with h6 | h6
 ·rw [hc] at h6; cases h6
 ·exact h6
end Go.Proofs.YtnbnhnjffiagmaaGreat
