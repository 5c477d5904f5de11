/- Lengths: Value. -/
import Derived.Test.YtlmmcachokiabaaGreatFnLv
namespace Go.Proofs.YtlmmcachokiabaaGreat
open Go.Sv
set_option linter.unusedSimpArgs false

theorem lengths_Value_ok (c : Int) (l : List Tm) (names : List (List UInt8)) (values : List Int) (hc : -2097152 ≤ c ∧ c ≤ 2097152) (hl : l.length ≤ 1000) (ht : ∀ t ∈ l, -1048576 ≤ t.2 ∧ t.2 ≤ 1048576) (h1 : names.length ≤ 9223372036854775807) (h2 : values.length ≤ 9223372036854775807) :
    FnS Tryz.prog 11 [.agg [.i c, .lst (tmC l) l.length 2], .lst (names.map .str) names.length 1, .lst (values.map .i) values.length 1] (.tup [.i (valueS c l names values).1, .i (valueS c l names values).2]) [] := by
  refine FnS.val rfl (call_body r_lengths_Value k_lengths_Value (by simp) ?_)
  by_cases hn : names.length = values.length
  case neg =>
    simp [c_lengths_Value, valueS, hn]
    omega
  simp [c_lengths_Value, hn]
  refine CallL_F (ContainsFunc_ok values h2) (by simp [bors, bor, LV.dat, dats]; exact dats_map (fun _ => rfl) values) ?_
  cases hb : values.any badV with
  | true => simp [valueS, hb]
  | false =>
    have hv : ∀ v ∈ values, 0 ≤ v ∧ v ≤ 1048576 := fun v hvm => by
      have := List.any_eq_false.1 hb v hvm
      simp [badV] at this
      omega
    simp
    refine loop_nx (fun ρ D G N => ∃ (i : Nat) (s : Int), D = [] ∧ N + i = l.length ∧ lk ρ 1 = .lst (names.map .str) names.length 1 ∧ lk ρ 2 = .lst (values.map .i) values.length 1 ∧ lk ρ 24 = .lst (tmC l) l.length 2 ∧ lk ρ 25 = .i l.length ∧ lk ρ 26 = .i i ∧ lk ρ 8 = .i (c + s) ∧
      sumT names values (l.take i) = some s) (N := l.length) ⟨0, 0, by simp [sumT, hn]⟩ ?_
    rintro N ρ D G ⟨i, s, rfl, hN, k1, k2, k24, k25, k26, k8, hs⟩ Nx hNx
    by_cases hi : l.length ≤ i
    · have g : ¬ i < l.length := by omega
      rw [List.take_of_length_le hi] at hs
      simp [k25, k26, k8, g, valueS, hn, hb, hs]
    · have g : i < l.length := by omega
      have hg := List.getElem?_eq_getElem g
      have q2 := tm_two l i _ hg
      have hq : i * 2 + 2 ≤ (tmC l).length := by rw [tmC_length]; omega
      simp [k24, k25, k26, g, q2, hq]
      simp [k1]
      refine CallL_F (Index_ok names l[i].1 h1) (by simp [bors, bor, LV.dat, dats]; exact dats_map (fun _ => rfl) names) ?_
      have hk : 0 ≤ ixZ (fun n => decide (l[i].1 = n)) names → ∃ k : Nat, ixZ (fun n => decide (l[i].1 = n)) names = k ∧ k < values.length := fun h => by
        have : names.findIdx (fun n => decide (l[i].1 = n)) < names.length := by
          unfold ixZ at h
          split at h
          · assumption
          · omega
        exact ⟨_, if_pos this, by omega⟩
      have hlk : lookN names values l[i].1 = if 0 ≤ ixZ (fun n => decide (l[i].1 = n)) names then some (values.getD (ixZ (fun n => decide (l[i].1 = n)) names).toNat 0) else none := rfl
      generalize ixZ (fun n => decide (l[i].1 = n)) names = z at hk hlk ⊢
      by_cases h0 : z < 0
      · rw [if_neg (by omega)] at hlk
        have hz := sumT_none (List.getElem_mem g) hlk
        simp [h0, valueS, hn, hb, hz]
      · obtain ⟨k, rfl, hk2⟩ := hk (by omega)
        have hkv := List.getElem?_eq_getElem hk2
        rw [if_pos (by omega)] at hlk
        have e : values.getD (k : Int).toNat 0 = values[k] := by simp [List.getD_eq_getElem?_getD, hkv]
        rw [e] at hlk
        have hst := sumT_step hs hg hlk
        have b1 := ht _ (List.getElem_mem g)
        have b2 := hv _ (List.getElem_mem hk2)
        have b3 := mul_bd b1.1 b1.2 b2.1 b2.2
        have b4 := sumT_le hv (fun t h => ht t (List.mem_of_mem_take h)) hst
        have b5 := sumT_le hv (fun t h => ht t (List.mem_of_mem_take h)) hs
        rw [List.length_take] at b4 b5
        simp [h0, k2, k8, hk2]
        simp [nthL_at (map_at (f := LV.i) hkv), k26]
        generalize l[i].2 * values[k] = pv at *
        refine ⟨by omega, by omega, by omega, hNx _ _ _ ⟨N - 1, by omega, i + 1, s + pv, rfl, by omega, by simp [k1], by simp [k2], by simp [k24], by simp [k25], by simp, by simp [Int.add_assoc], hst⟩⟩
end Go.Proofs.YtlmmcachokiabaaGreat
