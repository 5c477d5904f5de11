/- Instructions: the document's registers that are taken. -/
import Derived.Test.YtbcfbojigokplaaFnRh
namespace Go.Proofs.Ytbcfbojigokplaa
open Go.Sv
set_option linter.unusedSimpArgs false
set_option maxRecDepth 10000

theorem ref05_Reads_ok (x : In) : FnV Try.prog 21 [.agg x.c] (.lst ((regsOf (if checkB x = true then rl5 x else [])).map .i) (regsOf (if checkB x = true then rl5 x else [])).length 1) := by
  refine FnV.mk (by simp only [LV.dat]; exact dats_map (fun _ => rfl) _) (call_body r_ref05_Reads k_ref05_Reads (by simp) ?_)
  rw [c_ref05_Reads, wp_assoc, wp_assoc, wp_assoc]
  have hC : x.c = [.i x.op, .i x.d, .i x.s, .i x.t, .i x.base, .i x.index, .i x.scale, .i x.disp, .i x.imm] := rfl
  obtain ⟨t1, t2, t4, t8, _⟩ := let_at x.op
  have L1 : FnS Try.prog 32 [.str (fsOf x.op), .b 68] (.bool (hasB (ftOf x.op) 1)) [] := t1 ▸ let_ok x.op 68
  have L2 : FnS Try.prog 32 [.str (fsOf x.op), .b 83] (.bool (hasB (ftOf x.op) 2)) [] := t2 ▸ let_ok x.op 83
  have L4 : FnS Try.prog 32 [.str (fsOf x.op), .b 84] (.bool (hasB (ftOf x.op) 4)) [] := t4 ▸ let_ok x.op 84
  have L8 : FnS Try.prog 32 [.str (fsOf x.op), .b 77] (.bool (hasB (ftOf x.op) 8)) [] := t8 ▸ let_ok x.op 77
  obtain ⟨e19, e256, e512, e128⟩ := rel_at x.op
  cases hk : checkB x with
  | false =>
    simp [hC]
    rw [← hC]
    refine CallL_F (ref05_Check_ok x) (bors_self _ rfl) ?_
    simp [hk, regsOf_nil]
  | true =>
  rw [if_pos rfl]
  have al := arr_length
  obtain ⟨g1, g2, g4, g8⟩ := check_parts hk
  have hf := ft_ok x.op
  simp only [formOk, Bool.and_eq_true, decide_eq_true_eq] at hf
  obtain ⟨_, _, f3, f4, f5⟩ := hf
  have g256 : hasB (ftOf x.op) 256 = true → regB x.d = true := fun q => g1 (by rw [q] at f3; simpa using f3)
  have g128 : hasB (ftOf x.op) 128 = true → regB x.d = true := fun q => g1 (by rw [q] at f4; simpa using f4)
  have g4s : hasB (ftOf x.op) 4 = true → regB x.s = true := fun q => g2 (by rw [q] at f5; simpa using f5)
  simp only [regB_iff] at g1 g2 g4 g8 g256 g128 g4s
  refine wp_cut (PhiB x []) (fun Nx hNx => ?_) (fun ρ D G hΦ => ?_)
  · simp [hC]
    rw [← hC]
    refine CallL_F (ref05_Check_ok x) (bors_self _ rfl) ?_
    simp [hk, hC]
    refine CallL_F (ref05_Form_ok x.op) (by simp) ?_
    simp
    rw [← arr_nil]
    exact hNx _ _ _ ⟨rfl, by simp, by simp, by simp, _, rfl⟩
  refine wp_cut (PhiB x (q1 x)) (fun Nx hNx => ?_) (fun ρ D G hΦ => ?_)
  · obtain ⟨rfl, k1, k3, k4, st, rfl⟩ := hΦ
    simp [k4]
    refine CallL_F L2 (by simp) ?_
    cases hb : hasB (ftOf x.op) 2 with
    | false =>
      have e : q1 x = [] := by simp [q1, hb]
      simp
      exact hNx _ _ _ ⟨rfl, by simp [k1], by simp [k3], by simp [k4], st, by rw [e]⟩
    | true =>
    by_cases o19 : x.op = 19
    · have hb4 := e19.1 o19
      have e : q1 x = [] := by simp [q1, hb4]
      simp [k1, k3, k4, hC, o19]
      exact hNx _ _ _ ⟨rfl, by simp [k1], by simp [k3], by simp [k4], st, by rw [e]; simp [hC, o19]⟩
    · have hb4 : hasB (ftOf x.op) 4 = false := by
        cases h : hasB (ftOf x.op) 4 with
        | false => rfl
        | true => exact absurd (e19.2 h) o19
      have e : q1 x = [x.s] := by simp [q1, hb, hb4]
      obtain ⟨a0, a1⟩ := g2 hb
      have a2 : x.s < 16 := by omega
      simp [k1, k3, k4, hC, o19, a0, a2, al]
      rw [arr_set a0 a1]
      exact ⟨by omega, hNx _ _ _ ⟨rfl, by simp [k1], by simp [k3], by simp [k4], st + 1, by rw [e]; simp [hC]⟩⟩
  refine wp_cut (PhiB x (q2 x)) (fun Nx hNx => ?_) (fun ρ D G hΦ => ?_)
  · obtain ⟨rfl, k1, k3, k4, st, rfl⟩ := hΦ
    simp [k4]
    refine CallL_F L4 (by simp) ?_
    cases hb : hasB (ftOf x.op) 4 with
    | false =>
      have e : q2 x = q1 x := by simp [q2, hb]
      simp
      exact hNx _ _ _ ⟨rfl, by simp [k1], by simp [k3], by simp [k4], st, by rw [e]⟩
    | true =>
      have e : q2 x = 2 :: x.t :: q1 x := by simp [q2, hb]
      obtain ⟨a0, a1⟩ := g4 hb
      have a2 : x.t < 16 := by omega
      simp [k1, k3, k4, hC, a0, a2, al]
      rw [arr_set a0 a1, arr_two]
      simp [al]
      exact ⟨by omega, hNx _ _ _ ⟨rfl, by simp [k1], by simp [k3], by simp [k4], st + 1 + 1, by rw [e]; simp [hC]⟩⟩
  refine wp_cut (PhiB x (q3 x)) (fun Nx hNx => ?_) (fun ρ D G hΦ => ?_)
  · obtain ⟨rfl, k1, k3, k4, st, rfl⟩ := hΦ
    simp [k4]
    refine CallL_F L8 (by simp) ?_
    cases hb : hasB (ftOf x.op) 8 with
    | false =>
      have e : q3 x = q2 x := by simp [q3, hb]
      simp
      exact hNx _ _ _ ⟨rfl, by simp [k1], by simp [k3], by simp [k4], st, by rw [e]⟩
    | true =>
      obtain ⟨⟨a0, a1⟩, hi⟩ := g8 hb
      have a2 : x.base < 16 := by omega
      by_cases hx : x.index = -1
      · have e : q3 x = x.base :: q2 x := by simp [q3, hb, hx]
        simp [k1, k3, k4, hC, a0, a2, al, hx]
        rw [arr_set a0 a1]
        exact ⟨by omega, hNx _ _ _ ⟨rfl, by simp [k1], by simp [k3], by simp [k4], st + 1, by rw [e]; simp [hC, hx]⟩⟩
      · have e : q3 x = x.index :: x.base :: q2 x := by simp [q3, hb, hx]
        obtain ⟨b0, b1⟩ := hi.resolve_left hx
        have b2 : x.index < 16 := by omega
        simp [k1, k3, k4, hC, a0, a2, al, hx, b0, b2]
        rw [arr_set a0 a1]
        rw [arr_set b0 b1]
        simp [al]
        exact ⟨by omega, by omega, hNx _ _ _ ⟨rfl, by simp [k1], by simp [k3], by simp [k4], st + 1 + 1, by rw [e]; simp [hC]⟩⟩
  refine wp_cut (PhiB x (q4 x)) (fun Nx hNx => ?_) (fun ρ D G hΦ => ?_)
  · obtain ⟨rfl, k1, k3, k4, st, rfl⟩ := hΦ
    simp [k4]
    refine CallL_F L1 (by simp) ?_
    cases hb1 : hasB (ftOf x.op) 1 with
    | false =>
      have hb : hasB (ftOf x.op) 256 = false := by
        cases h : hasB (ftOf x.op) 256 with
        | false => rfl
        | true => exact absurd ((e256.2 h).1) (by simp [hb1])
      have e : q4 x = q3 x := by simp [q4, hb]
      simp
      exact hNx _ _ _ ⟨rfl, by simp [k1], by simp [k3], by simp [k4], st, by rw [e]⟩
    | true =>
    by_cases o1 : x.op = 1
    · have hb : hasB (ftOf x.op) 256 = false := by
        cases h : hasB (ftOf x.op) 256 with
        | false => rfl
        | true => exact absurd (.inl o1) (e256.2 h).2
      have e : q4 x = q3 x := by simp [q4, hb]
      simp [k1, k3, k4, hC, o1]
      exact hNx _ _ _ ⟨rfl, by simp [k1], by simp [k3], by simp [k4], st, by rw [e]; simp [hC, o1]⟩
    by_cases o2 : x.op = 2
    · have hb : hasB (ftOf x.op) 256 = false := by
        cases h : hasB (ftOf x.op) 256 with
        | false => rfl
        | true => exact absurd (.inr (.inl o2)) (e256.2 h).2
      have e : q4 x = q3 x := by simp [q4, hb]
      simp [k1, k3, k4, hC, o2]
      exact hNx _ _ _ ⟨rfl, by simp [k1], by simp [k3], by simp [k4], st, by rw [e]; simp [hC, o2]⟩
    by_cases o3 : x.op = 3
    · have hb : hasB (ftOf x.op) 256 = false := by
        cases h : hasB (ftOf x.op) 256 with
        | false => rfl
        | true => exact absurd (.inr (.inr (.inl o3))) (e256.2 h).2
      have e : q4 x = q3 x := by simp [q4, hb]
      simp [k1, k3, k4, hC, o3]
      exact hNx _ _ _ ⟨rfl, by simp [k1], by simp [k3], by simp [k4], st, by rw [e]; simp [hC, o3]⟩
    by_cases o5 : x.op = 5
    · have hb : hasB (ftOf x.op) 256 = false := by
        cases h : hasB (ftOf x.op) 256 with
        | false => rfl
        | true => exact absurd (.inr (.inr (.inr (.inl o5)))) (e256.2 h).2
      have e : q4 x = q3 x := by simp [q4, hb]
      simp [k1, k3, k4, hC, o5]
      exact hNx _ _ _ ⟨rfl, by simp [k1], by simp [k3], by simp [k4], st, by rw [e]; simp [hC, o5]⟩
    by_cases o19 : x.op = 19
    · have hb : hasB (ftOf x.op) 256 = false := by
        cases h : hasB (ftOf x.op) 256 with
        | false => rfl
        | true => exact absurd (.inr (.inr (.inr (.inr (.inl o19))))) (e256.2 h).2
      have e : q4 x = q3 x := by simp [q4, hb]
      simp [k1, k3, k4, hC, o19]
      exact hNx _ _ _ ⟨rfl, by simp [k1], by simp [k3], by simp [k4], st, by rw [e]; simp [hC, o19]⟩
    by_cases o29 : x.op = 29
    · have hb : hasB (ftOf x.op) 256 = false := by
        cases h : hasB (ftOf x.op) 256 with
        | false => rfl
        | true => exact absurd (.inr (.inr (.inr (.inr (.inr (o29)))))) (e256.2 h).2
      have e : q4 x = q3 x := by simp [q4, hb]
      simp [k1, k3, k4, hC, o29]
      exact hNx _ _ _ ⟨rfl, by simp [k1], by simp [k3], by simp [k4], st, by rw [e]; simp [hC, o29]⟩
    have hb : hasB (ftOf x.op) 256 = true := e256.1 ⟨hb1, fun h => by simp only [o1, o2, o3, o5, o19, o29, or_self] at h⟩
    have e : q4 x = x.d :: q3 x := by simp [q4, hb]
    obtain ⟨a0, a1⟩ := g256 hb
    have a2 : x.d < 16 := by omega
    simp [k1, k3, k4, hC, o1, o2, o3, o5, o19, o29, a0, a2, al]
    rw [arr_set a0 a1]
    exact ⟨by omega, hNx _ _ _ ⟨rfl, by simp [k1], by simp [k3], by simp [k4], st + 1, by rw [e]; simp [hC]⟩⟩
  refine wp_cut (PhiB x (q5 x)) (fun Nx hNx => ?_) (fun ρ D G hΦ => ?_)
  · obtain ⟨rfl, k1, k3, k4, st, rfl⟩ := hΦ
    by_cases o28 : x.op = 28
    · have hb := e512.1 (.inl o28)
      have e : q5 x = 4 :: q4 x := by simp [q5, hb]
      simp [k1, k3, k4, hC, o28, al]
      rw [arr_four]
      exact hNx _ _ _ ⟨rfl, by simp [k1], by simp [k3], by simp [k4], st + 1, by rw [e]; simp [hC, o28]⟩
    by_cases o29 : x.op = 29
    · have hb := e512.1 (.inr (.inl o29))
      have e : q5 x = 4 :: q4 x := by simp [q5, hb]
      simp [k1, k3, k4, hC, o29, al]
      rw [arr_four]
      exact hNx _ _ _ ⟨rfl, by simp [k1], by simp [k3], by simp [k4], st + 1, by rw [e]; simp [hC, o29]⟩
    by_cases o33 : x.op = 33
    · have hb := e512.1 (.inr (.inr o33))
      have e : q5 x = 4 :: q4 x := by simp [q5, hb]
      simp [k1, k3, k4, hC, o33, al]
      rw [arr_four]
      exact hNx _ _ _ ⟨rfl, by simp [k1], by simp [k3], by simp [k4], st + 1, by rw [e]; simp [hC, o33]⟩
    have hb : hasB (ftOf x.op) 512 = false := by
      cases h : hasB (ftOf x.op) 512 with
      | false => rfl
      | true => rcases e512.2 h with h | h | h <;> contradiction
    have e : q5 x = q4 x := by simp [q5, hb]
    simp [k1, k3, k4, hC, o28, o29, o33]
    exact hNx _ _ _ ⟨rfl, by simp [k1], by simp [k3], by simp [k4], st, by rw [e]; simp [hC]⟩
  obtain ⟨rfl, k1, k3, k4, st, rfl⟩ := hΦ
  have hz : regsOf (q5 x) = regsOf (rl5 x) := regsOf_congr (q_mem x)
  have hR := rising_ok (q5 x)
  rw [hz] at hR
  have tk : (arrC (q5 x)).take 16 = arrC (q5 x) := List.take_of_length_le (by rw [arr_length]; omega)
  simp [k3, al, tk]
  refine CallL_V hR (by simp [dats, LV.dat, arr_dats]) ?_
  have di : dats ((regsOf (rl5 x)).map .i) = true := dats_map (fun _ => rfl) _
  simp [bor, LV.dat, di]
end Go.Proofs.Ytbcfbojigokplaa
