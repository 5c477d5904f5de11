/- Naturals that stand one behind the other. -/
import Derived.Test.YtlfffpmdofacjaaFnE
namespace Go.Proofs.Ytlfffpmdofacjaa
open Go.Sv
set_option linter.unusedSimpArgs false

theorem marshal_Row_ok (l : List (List UInt64)) (hl : l.length ≤ 1000) (hx : ∀ x ∈ l, x.length ≤ 100) : FnV Try.prog 20 [.str (encRow l)] (.tup [LN (l.map fun x => toL (val x)), .i 0]) := by
  refine FnV.mk (by simp [LV.dat, dats]) (call_body r_marshal_Row k_marshal_Row (by simp) ?_)
  simp [c_marshal_Row]
  refine loop_nx (fun ρ D G N => ∃ i : Nat, D = [] ∧ N + i = l.length ∧ lk ρ 0 = .str (encRow (l.drop i)) ∧ RowG G (lk ρ 2) ((l.take i).map fun x => LU (toL (val x)))) (N := l.length) ⟨0, by simp [RowG]⟩ ?_
  rintro N ρ D G ⟨i, rfl, hN, h0, h2⟩ Nx hNx
  by_cases hz : N = 0
  · have hi : i = l.length := by omega
    subst hi
    rw [List.drop_length] at h0
    rw [List.take_length] at h2
    simp [h0, encRow]
    have hbor := h2.bor (dats_map (fun x => by simp) l)
    simpa [Function.comp_def] using hbor
  · have hi : i < l.length := by omega
    have hd : l.drop i = l[i] :: l.drop (i + 1) := (List.drop_eq_getElem_cons hi)
    obtain ⟨x, hxe⟩ : ∃ x, l[i] = x := ⟨_, rfl⟩
    have hlx : x.length ≤ 100 := hx x (by rw [← hxe]; simp)
    have hlr := encRow_length (l.drop (i + 1)) (m := 100) (fun y hy => hx y (List.mem_of_mem_drop hy))
    rw [hd, hxe] at h0
    generalize hre : encRow (l.drop (i + 1)) = r at hlr
    have hlr2 : r.length ≤ 808 * 1000 := by simp at hlr; omega
    simp only [encRow, hre] at h0
    have hb := bytesN_length (UInt64.ofNat x.length) 8
    have hbl := limb_bytes (UInt64.ofNat x.length)
    have hu := bytesUs_length x
    generalize bytesN (UInt64.ofNat x.length) 8 = s1 at *
    have hs1 : s1 ≠ [] := fun e => by rw [e] at hb; simp at hb
    have t1 : (s1 ++ (bytesUs x ++ r)).take 8 = s1 := by rw [← hb, List.take_left]
    have t2 : (s1 ++ (bytesUs x ++ r)).drop 8 = bytesUs x ++ r := by rw [← hb, List.drop_left]
    have hn : (UInt64.ofNat x.length).toNat = x.length := by rw [UInt64.toNat_ofNat']; omega
    have hn8 : (mulU 8 (UInt64.ofNat x.length)).toNat = 8 * x.length := by rw [mulU_eq, UInt64.toNat_mul, hn]; simp; omega
    have hq1 : ¬ (512 : UInt64) < UInt64.ofNat x.length := by rw [UInt64.lt_iff_toNat_lt, hn]; simp; omega
    simp [h0, hs1, hb]
    refine ⟨by omega, fun _ => ?_⟩
    refine CallL_F (marshal_limb_ok s1 (by omega)) (bors1 (RowB.bor (l := s1) (.inr ⟨_, 0, 0, rfl, by simp [hb]⟩))) ?_
    simp [h0, hb, hbl, hq1]
    have hiU : iU ((bytesUs x).length + r.length) = iU ((8 * x.length + r.length : Nat) : Int) := by rw [hu]; simp
    have hq2 : ¬ iU ((bytesUs x).length + r.length) < mulU 8 (UInt64.ofNat x.length) := by
      rw [hiU, UInt64.lt_iff_toNat_lt, hn8, iU_nat (by omega)]; omega
    have hq3 : mulU 8 (UInt64.ofNat x.length) ≤ iU ((bytesUs x).length + r.length) := UInt64.not_lt.1 hq2
    have tx : List.take (8 * x.length) (List.take (8 * x.length + r.length) (bytesUs x ++ r)) = bytesUs x := by
      rw [List.take_take, Nat.min_eq_left (by omega), List.take_append_of_le_length (by omega), List.take_of_length_le (by omega)]
    refine ⟨hq3, fun _ => ⟨by omega, ?_⟩⟩
    have n1 : natE (bytesUs x) = 0 := by simp only [natE, hu]; rw [if_neg (by omega), if_neg (by omega)]
    have n2 : natR (bytesUs x) = toL (val x) := by
      simp only [natR, hu]; rw [if_neg (by omega), show 8 * x.length / 8 = x.length by omega, words_bytes _ _ (Nat.le_refl _), List.take_length]
    have hc := marshal_Nat_ok (bytesUs x) (by omega)
    rw [n1, n2] at hc
    simp only [hn8, hu, tx]
    refine CallL_F hc (by simp) ?_
    simp [RU]
    refine appL_rowG (h2.app _) rfl (by simp; omega) (fun v' G' hr _ => ?_)
    simp [h0]
    have ty : List.take (min (8 * x.length) (8 * x.length) + r.length - 8 * x.length) (List.drop (8 * x.length) (List.take (8 * x.length + r.length) (bytesUs x ++ r))) = r := by
      rw [Nat.min_self, Nat.add_sub_cancel_left, List.take_of_length_le (l := bytesUs x ++ r) (by simp; omega), ← hu, List.drop_left, List.take_length]
    simp only [hn8, hu]
    refine ⟨by omega, hNx _ _ _ ⟨N - 1, by omega, i + 1, rfl, by omega, ?_, ?_⟩⟩
    · rw [ty, hre]; simp
    · rw [List.take_succ_eq_append_getElem hi, hxe]
      simpa using hr
end Go.Proofs.Ytlfffpmdofacjaa
