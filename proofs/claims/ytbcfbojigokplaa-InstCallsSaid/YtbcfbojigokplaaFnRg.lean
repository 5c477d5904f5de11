/- Instructions: the document's Check. -/
import Derived.Test.YtbcfbojigokplaaFnRf
namespace Go.Proofs.Ytbcfbojigokplaa
open Go.Sv
set_option linter.unusedSimpArgs false
set_option maxRecDepth 10000

def PhiC (x : In) (b : Bool) (ρ : LEnv) (D : List Nat) (G : LHeap) : Prop := D = [] ∧ lk ρ 1 = .ptr 0 0 ∧ lk ρ 3 = .str (fsOf x.op) ∧ lk ρ 4 = .bool b ∧ G = [.cells x.c 0]
theorem ref05_Check_ok (x : In) : FnS Try.prog 20 [.agg x.c] (.i (if checkB x = true then 0 else 2)) [] := by
  refine FnS.val rfl (call_body r_ref05_Check k_ref05_Check (by simp) ?_)
  rw [c_ref05_Check, wp_assoc, wp_assoc]
  have hC : x.c = [.i x.op, .i x.d, .i x.s, .i x.t, .i x.base, .i x.index, .i x.scale, .i x.disp, .i x.imm] := rfl
  obtain ⟨t1, t2, t4, t8, t16, t64, t32, t0⟩ := let_at x.op
  have L1 : FnS Try.prog 32 [.str (fsOf x.op), .b 68] (.bool (hasB (ftOf x.op) 1)) [] := t1 ▸ let_ok x.op 68
  have L2 : FnS Try.prog 32 [.str (fsOf x.op), .b 83] (.bool (hasB (ftOf x.op) 2)) [] := t2 ▸ let_ok x.op 83
  have L4 : FnS Try.prog 32 [.str (fsOf x.op), .b 84] (.bool (hasB (ftOf x.op) 4)) [] := t4 ▸ let_ok x.op 84
  have L8 : FnS Try.prog 32 [.str (fsOf x.op), .b 77] (.bool (hasB (ftOf x.op) 8)) [] := t8 ▸ let_ok x.op 77
  have L16 : FnS Try.prog 32 [.str (fsOf x.op), .b 105] (.bool (hasB (ftOf x.op) 16)) [] := t16 ▸ let_ok x.op 105
  have L64 : FnS Try.prog 32 [.str (fsOf x.op), .b 98] (.bool (hasB (ftOf x.op) 64)) [] := t64 ▸ let_ok x.op 98
  have L32 : FnS Try.prog 32 [.str (fsOf x.op), .b 73] (.bool (hasB (ftOf x.op) 32)) [] := t32 ▸ let_ok x.op 73
  refine wp_cut (PhiC x (okk0 x)) (fun Nx hNx => ?_) (fun ρ D G hΦ => ?_)
  · simp [hC]
    refine CallL_F (ref05_Form_ok x.op) (by simp) ?_
    have e : okk0 x = !decide (fsOf x.op = []) := by
      unfold okk0
      by_cases h : fsOf x.op = []
      · simp [h, t0.1 h]
      · simp [h, mt t0.2 h]
    simp
    exact hNx _ _ _ ⟨rfl, by simp, by simp, by simp [e], rfl⟩
  refine wp_cut (PhiC x (okk1 x)) (fun Nx hNx => ?_) (fun ρ D G hΦ => ?_)
  · obtain ⟨rfl, k1, k3, k4, rfl⟩ := hΦ
    cases hb0 : okk0 x with
    | false =>
      have e : okk1 x = false := by simp [okk1, hb0]
      simp [k1, k3, k4, hb0]
      exact hNx _ _ _ ⟨rfl, by simp [k1], by simp [k3], by simp [e], rfl⟩
    | true =>
      simp [k1, k3, k4, hb0]
      refine CallL_F L1 (by simp) ?_
      cases hb : hasB (ftOf x.op) 1 with
      | true =>
        simp [k1, k3, hC]
        refine CallL_F (ref05_register_ok x.d) (by simp) ?_
        rw [show decide (0 ≤ x.d ∧ x.d ≤ 15) = regB x.d from rfl]
        cases hr : regB x.d with
        | true =>
          have e : okk1 x = true := by simp [okk1, hb0, partB, hb, hr]
          simp
          exact hNx _ _ _ ⟨rfl, by simp [k1], by simp [k3], by simp [e], rfl⟩
        | false =>
          have e : okk1 x = false := by simp [okk1, hb0, partB, hb, hr]
          simp [k3]
          refine CallL_F L1 (by simp) ?_
          simp [hb]
          exact hNx _ _ _ ⟨rfl, by simp [k1], by simp [k3], by simp [e], rfl⟩
      | false =>
        simp [k3]
        refine CallL_F L1 (by simp) ?_
        have e : okk1 x = decide (x.d = 0) := by simp [okk1, hb0, partB, hb]
        simp [hb, k1, hC]
        exact hNx _ _ _ ⟨rfl, by simp [k1], by simp [k3], by simp [e], rfl⟩
  refine wp_cut (PhiC x (okk2 x)) (fun Nx hNx => ?_) (fun ρ D G hΦ => ?_)
  · obtain ⟨rfl, k1, k3, k4, rfl⟩ := hΦ
    cases hb0 : okk1 x with
    | false =>
      have e : okk2 x = false := by simp [okk2, hb0]
      simp [k1, k3, k4, hb0]
      exact hNx _ _ _ ⟨rfl, by simp [k1], by simp [k3], by simp [e], rfl⟩
    | true =>
      simp [k1, k3, k4, hb0]
      refine CallL_F L2 (by simp) ?_
      cases hb : hasB (ftOf x.op) 2 with
      | true =>
        simp [k1, k3, hC]
        refine CallL_F (ref05_register_ok x.s) (by simp) ?_
        rw [show decide (0 ≤ x.s ∧ x.s ≤ 15) = regB x.s from rfl]
        cases hr : regB x.s with
        | true =>
          have e : okk2 x = true := by simp [okk2, hb0, partB, hb, hr]
          simp
          exact hNx _ _ _ ⟨rfl, by simp [k1], by simp [k3], by simp [e], rfl⟩
        | false =>
          have e : okk2 x = false := by simp [okk2, hb0, partB, hb, hr]
          simp [k3]
          refine CallL_F L2 (by simp) ?_
          simp [hb]
          exact hNx _ _ _ ⟨rfl, by simp [k1], by simp [k3], by simp [e], rfl⟩
      | false =>
        simp [k3]
        refine CallL_F L2 (by simp) ?_
        have e : okk2 x = decide (x.s = 0) := by simp [okk2, hb0, partB, hb]
        simp [hb, k1, hC]
        exact hNx _ _ _ ⟨rfl, by simp [k1], by simp [k3], by simp [e], rfl⟩
  refine wp_cut (PhiC x (okk3 x)) (fun Nx hNx => ?_) (fun ρ D G hΦ => ?_)
  · obtain ⟨rfl, k1, k3, k4, rfl⟩ := hΦ
    cases hb0 : okk2 x with
    | false =>
      have e : okk3 x = false := by simp [okk3, hb0]
      simp [k1, k3, k4, hb0]
      exact hNx _ _ _ ⟨rfl, by simp [k1], by simp [k3], by simp [e], rfl⟩
    | true =>
      simp [k1, k3, k4, hb0]
      refine CallL_F L4 (by simp) ?_
      cases hb : hasB (ftOf x.op) 4 with
      | true =>
        simp [k1, k3, hC]
        refine CallL_F (ref05_register_ok x.t) (by simp) ?_
        rw [show decide (0 ≤ x.t ∧ x.t ≤ 15) = regB x.t from rfl]
        cases hr : regB x.t with
        | true =>
          by_cases hds : x.d = x.s
          · have e : okk3 x = false := by simp [okk3, hb0, partB, hb, hr, hds]
            simp [k1, k3, hC, hds]
            refine CallL_F L4 (by simp) ?_
            simp [hb]
            exact hNx _ _ _ ⟨rfl, by simp [k1], by simp [k3], by simp [e], by simp [hC, hds]⟩
          · have e : okk3 x = true := by simp [okk3, hb0, partB, hb, hr, hds]
            simp [k1, k3, hC, hds]
            exact hNx _ _ _ ⟨rfl, by simp [k1], by simp [k3], by simp [e], rfl⟩
        | false =>
          have e : okk3 x = false := by simp [okk3, hb0, partB, hb, hr]
          simp [k3]
          refine CallL_F L4 (by simp) ?_
          simp [hb]
          exact hNx _ _ _ ⟨rfl, by simp [k1], by simp [k3], by simp [e], rfl⟩
      | false =>
        simp [k3]
        refine CallL_F L4 (by simp) ?_
        have e : okk3 x = decide (x.t = 0) := by simp [okk3, hb0, partB, hb]
        simp [hb, k1, hC]
        exact hNx _ _ _ ⟨rfl, by simp [k1], by simp [k3], by simp [e], rfl⟩
  refine wp_cut (PhiC x (okk4 x)) (fun Nx hNx => ?_) (fun ρ D G hΦ => ?_)
  · obtain ⟨rfl, k1, k3, k4, rfl⟩ := hΦ
    cases hb0 : okk3 x with
    | false =>
      have e : okk4 x = false := by simp [okk4, hb0]
      simp [k1, k3, k4, hb0]
      exact hNx _ _ _ ⟨rfl, by simp [k1], by simp [k3], by simp [e], rfl⟩
    | true =>
      simp [k1, k3, k4, hb0]
      refine CallL_F L8 (by simp) ?_
      cases hb : hasB (ftOf x.op) 8 with
      | true =>
        simp [k1, k3, hC]
        refine CallL_F (ref05_place_ok x.base x.index x.scale x.disp) (by simp) ?_
        cases hr : placeB x.base x.index x.scale x.disp with
        | true =>
          have e : okk4 x = true := by simp [okk4, hb0, memB, hb, hr]
          simp
          exact hNx _ _ _ ⟨rfl, by simp [k1], by simp [k3], by simp [e], rfl⟩
        | false =>
          have e : okk4 x = false := by simp [okk4, hb0, memB, hb, hr]
          simp [k3]
          refine CallL_F L8 (by simp) ?_
          simp [hb]
          exact hNx _ _ _ ⟨rfl, by simp [k1], by simp [k3], by simp [e], rfl⟩
      | false =>
        simp [k3]
        refine CallL_F L8 (by simp) ?_
        have e : okk4 x = (decide (x.base = 0) && (decide (x.index = 0) && (decide (x.scale = 0) && decide (x.disp = 0)))) := by simp [okk4, hb0, memB, hb]
        simp [hb, k1, hC]
        refine ⟨_, rfl, rfl, memEq2 _ _ _ _, ?_⟩
        rw [← e]
        simp
        exact hNx _ _ _ ⟨rfl, by simp [k1], by simp [k3], by simp, rfl⟩
  obtain ⟨x16, x64⟩ := ft_excl x.op
  refine wp_cut (PhiC x (okk5 x)) (fun Nx hNx => ?_) (fun ρ D G hΦ => ?_)
  · obtain ⟨rfl, k1, k3, k4, rfl⟩ := hΦ
    simp [k3]
    refine CallL_F L16 (by simp) ?_
    cases h16 : hasB (ftOf x.op) 16 with
    | true =>
      have q32 := x16 h16
      have e : okk5 x = (okk4 x && smallB x.imm) := by simp [okk5, numB, h16, q32]
      cases hb0 : okk4 x with
      | false =>
        simp [k4, hb0]
        exact hNx _ _ _ ⟨rfl, by simp [k1], by simp [k3], by simp [e, hb0], rfl⟩
      | true =>
        simp [k1, k4, hb0, hC]
        refine CallL_F (ref05_small_ok x.imm) (by simp) ?_
        simp
        exact hNx _ _ _ ⟨rfl, by simp [k1], by simp [k3], by simp [e, hb0], rfl⟩
    | false =>
    simp [k3]
    refine CallL_F L64 (by simp) ?_
    cases h64 : hasB (ftOf x.op) 64 with
    | true =>
      have q32 := x64 h64
      have e : okk5 x = (okk4 x && (decide (1 ≤ x.imm) && decide (x.imm ≤ 63))) := by simp [okk5, numB, h16, h64, q32]
      cases hb0 : okk4 x with
      | false =>
        simp [k4, hb0]
        exact hNx _ _ _ ⟨rfl, by simp [k1], by simp [k3], by simp [e, hb0], rfl⟩
      | true =>
        by_cases g1 : 1 ≤ x.imm
        · simp [k1, k4, hb0, hC, g1]
          exact hNx _ _ _ ⟨rfl, by simp [k1], by simp [k3], by simp [e, hb0, g1], rfl⟩
        · simp [k1, k4, hb0, hC, g1]
          exact hNx _ _ _ ⟨rfl, by simp [k1], by simp [k3], by simp [e, hb0, g1], rfl⟩
    | false =>
    simp [k3]
    refine CallL_F L32 (by simp) ?_
    cases h32 : hasB (ftOf x.op) 32 with
    | true =>
      have e : okk5 x = okk4 x := by simp [okk5, numB, h32]
      simp
      exact hNx _ _ _ ⟨rfl, by simp [k1], by simp [k3], by simp [e, k4], rfl⟩
    | false =>
      have e : okk5 x = (okk4 x && decide (x.imm = 0)) := by simp [okk5, numB, h16, h64, h32]
      cases hb0 : okk4 x with
      | false =>
        simp [k4, hb0]
        exact hNx _ _ _ ⟨rfl, by simp [k1], by simp [k3], by simp [e, hb0], rfl⟩
      | true =>
        simp [k1, k4, hb0, hC]
        exact hNx _ _ _ ⟨rfl, by simp [k1], by simp [k3], by simp [e, hb0], rfl⟩
  · obtain ⟨rfl, k1, k3, k4, rfl⟩ := hΦ
    rw [okk_check] at k4
    cases hk : checkB x <;> simp [k4, hk]
end Go.Proofs.Ytbcfbojigokplaa
