/- Instructions: registers that are taken. -/
import Derived.Test.YtbcfbojigokplaaFnWr
namespace Go.Proofs.Ytbcfbojigokplaa
open Go.Sv
set_option linter.unusedSimpArgs false
set_option maxRecDepth 10000

theorem Reads_ok (x : In) (h1 : inI x.imm) (h2 : inI x.disp) : FnV Try.prog 12 [.agg x.c] (.lst ((regsOf (if checkB x = true then rl5 x else [])).map .i) (regsOf (if checkB x = true then rl5 x else [])).length 1) := by
  refine FnV.mk (by simp only [LV.dat]; exact dats_map (fun _ => rfl) _) (call_body r_inst_Reads k_inst_Reads (by simp) ?_)
  rw [c_inst_Reads, wp_assoc, wp_assoc, wp_assoc]
  have hC : x.c = [.i x.op, .i x.d, .i x.s, .i x.t, .i x.base, .i x.index, .i x.scale, .i x.disp, .i x.imm] := rfl
  have f1 : (ftC (ftOf x.op)).length = 4 := rfl
  have f2 : (ftC (ftOf x.op)).take 4 = ftC (ftOf x.op) := rfl
  have f3 : ftC (ftOf x.op) = [.str (ftOf x.op).1, .i (ftOf x.op).2.1, .i (ftOf x.op).2.2.1, .i (ftOf x.op).2.2.2] := rfl
  have f4 : frVs [] (ftC (ftOf x.op)) = ftC (ftOf x.op) := rfl
  cases hk : checkB x with
  | false =>
    simp [hC]
    rw [← hC]
    refine CallL_F (Check_ok x h1 h2) (bors_self _ rfl) ?_
    simp [hk, regsOf_nil]
  | true =>
  rw [if_pos rfl]
  refine wp_cut (fun ρ D G => PhiR x [] ρ D G) (fun Nx hNx => ?_) (fun ρ D G hΦ => ?_)
  · simp [hC]
    rw [← hC]
    refine CallL_F (Check_ok x h1 h2) (bors_self _ rfl) ?_
    simp [hk, hC]
    refine CallL_F (inst_of_ok x.op) (by simp) ?_
    simp [f4, f3]
    rw [← hC, ← f3]
    exact hNx _ _ _ ⟨rfl, by simp, by simp, rfl, rfl, .inl ⟨by simp, rfl⟩, by simp, by simp⟩
  obtain ⟨rfl, k1, k3, g0, g1, _⟩ := id hΦ
  refine wp_cut (fun ρ D G => PhiR x (rl1 x) ρ D G) (fun Nx hNx => ?_) (fun ρ D G hΦ => ?_)
  · simp [k3, g1, f1, f2]
    refine CallL_F (flag_at x 256 (by omega)) (bors_self _ rfl) ?_
    cases hb : hasB (ftOf x.op) 256 with
    | false =>
      simp
      exact hNx _ _ _ (hΦ.next (by simp [rl1, hb]) (by simp) (by simp) (by simp))
    | true =>
      simp [k1, g0, hC]
      exact hΦ.app (L' := rl1 x) (new := [x.d]) rfl rfl (by simp [rl1, hb]) (by simp) fun v' G' hP => by
        simp
        exact hNx _ _ _ (hP _ (by simp [k1]) (by simp [k3]) (by simp))
  obtain ⟨rfl, k1, k3, g0, g1, _⟩ := id hΦ
  refine wp_cut (fun ρ D G => PhiR x (rl2 x) ρ D G) (fun Nx hNx => ?_) (fun ρ D G hΦ => ?_)
  · simp [k3, g1, f1, f2]
    refine CallL_F (flag_at x 2 (by omega)) (bors_self _ rfl) ?_
    cases hb : hasB (ftOf x.op) 2 with
    | false =>
      simp
      exact hNx _ _ _ (hΦ.next (by simp [rl2, hb]) (by simp) (by simp) (by simp))
    | true =>
      simp [k3, g1, f1, f2]
      refine CallL_F (flag_at x 4 (by omega)) (bors_self _ rfl) ?_
      cases hb4 : hasB (ftOf x.op) 4 with
      | true =>
        simp
        exact hNx _ _ _ (hΦ.next (by simp [rl2, hb, hb4]) (by simp) (by simp) (by simp))
      | false =>
        simp [k1, g0, hC]
        exact hΦ.app (L' := rl2 x) (new := [x.s]) rfl rfl (by simp [rl2, hb, hb4]) (by have := rl_len x; omega) fun v' G' hP => by
          simp
          exact hNx _ _ _ (hP _ (by simp [k1]) (by simp [k3]) (by simp))
  obtain ⟨rfl, k1, k3, g0, g1, _⟩ := id hΦ
  refine wp_cut (fun ρ D G => PhiR x (rl3 x) ρ D G) (fun Nx hNx => ?_) (fun ρ D G hΦ => ?_)
  · simp [k3, g1, f1, f2]
    refine CallL_F (flag_at x 4 (by omega)) (bors_self _ rfl) ?_
    cases hb : hasB (ftOf x.op) 4 with
    | false =>
      simp
      exact hNx _ _ _ (hΦ.next (by simp [rl3, hb]) (by simp) (by simp) (by simp))
    | true =>
      simp [k1, g0, hC]
      exact hΦ.app (L' := rl3 x) (new := [x.t, 2]) rfl rfl (by simp [rl3, hb]) (by have := rl_len x; omega) fun v' G' hP => by
        simp
        exact hNx _ _ _ (hP _ (by simp [k1]) (by simp [k3]) (by simp))
  obtain ⟨rfl, k1, k3, g0, g1, _⟩ := id hΦ
  refine wp_cut (fun ρ D G => PhiR x (rl4 x) ρ D G) (fun Nx hNx => ?_) (fun ρ D G hΦ => ?_)
  · simp [k3, g1, f1, f2]
    refine CallL_F (flag_at x 8 (by omega)) (bors_self _ rfl) ?_
    cases hb : hasB (ftOf x.op) 8 with
    | false =>
      simp
      exact hNx _ _ _ (hΦ.next (by simp [rl4, hb]) (by simp) (by simp) (by simp))
    | true =>
      simp [k1, g0, hC]
      refine hΦ.app (L' := rl3 x ++ [x.base]) (new := [x.base]) rfl rfl rfl (by have := rl_len x; omega) fun v' G' hP => ?_
      have hΦ2 := hP [(4, v'), (3, .ptr 1 0), (1, .ptr 0 0)] (by simp) (by simp) (by simp)
      have g2 := hΦ2.2.2.2.1
      by_cases hx : x.index = -1
      · simp [k1, g2, hC, hx]
        exact hNx _ _ _ ((hP _ (by simp [k1]) (by simp [k3]) (by simp)).next (by simp [rl4, hb, hx]) rfl rfl rfl)
      · simp [k1, g2, hC, hx]
        have e4 : lk [(4, v'), (3, .ptr 1 0), (1, .ptr 0 0)] 4 = v' := by simp
        rw [← e4]
        exact hΦ2.app (L' := rl4 x) (new := [x.index]) rfl rfl (by simp [rl4, hb, hx]) (by have := rl_len x; simp; omega) fun v'' G'' hP2 => by
          simp
          exact hNx _ _ _ (hP2 _ (by simp [k1]) (by simp [k3]) (by simp))
  obtain ⟨rfl, k1, k3, g0, g1, _⟩ := id hΦ
  refine wp_cut (fun ρ D G => PhiR x (rl5 x) ρ D G) (fun Nx hNx => ?_) (fun ρ D G hΦ => ?_)
  · simp [k3, g1, f1, f2]
    refine CallL_F (flag_at x 512 (by omega)) (bors_self _ rfl) ?_
    cases hb : hasB (ftOf x.op) 512 with
    | false =>
      simp
      exact hNx _ _ _ (hΦ.next (by simp [rl5, hb]) (by simp) (by simp) (by simp))
    | true =>
      simp [k1, g0, hC]
      exact hΦ.app (L' := rl5 x) (new := [4]) rfl rfl (by simp [rl5, hb]) (by have := rl_len x; omega) fun v' G' hP => by
        simp
        exact hNx _ _ _ (hP _ (by simp [k1]) (by simp [k3]) (by simp))
  obtain ⟨rfl, k1, k3, g0, g1, hr, _⟩ := id hΦ
  obtain ⟨q1, q2⟩ := reads_in hk
  simp
  rcases hr with ⟨e1, e2⟩ | ⟨p, k, st, e1, e2⟩
  · rw [e1]
    refine CallL_F set_nil (bors_self _ rfl) ?_
    have e3 : rl5 x = [] := by simpa using e2
    simp [e3, regsOf_nil]
  · rw [e1]
    rw [List.length_map] at e2
    refine set_ok (rl5 x) (by omega) q2 G p k st e2 _ fun v G' hb => ?_
    simp [-borR]
    cases v with
    | tup l => obtain ⟨r, e, _⟩ := hb; cases e
    | _ => exact hb
end Go.Proofs.Ytbcfbojigokplaa
