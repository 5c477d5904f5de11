/- Rows of naturals. -/
import Derived.Test.YtnbnhnjffiagmaaGreatFnD
namespace Go.Proofs.YtnbnhnjffiagmaaGreat
open Go.Sv
set_option linter.unusedSimpArgs false
def c_kit_LightNats : LC := (.seq (.ops [ .z 6 (.move (.c (.bool false)))]) (.seq (.seq (.ops [ .z 7 (.move (.c (.i 0)))]) (.block 0 (.loop (.seq (.seq (.ops [ .z 8 (.move (.t 7)), .z 9 (.move (.t 0)), .z 10 (.lenSl (.t 9)), .z 11 (.bin .lss false 3 (.t 8) (.t 10))]) (.cond (.t 11) .skip (.exit 0))) (.seq (.block 1 (.seq (.ops [ .z 14 (.move (.t 0)), .z 15 (.move (.t 7)), .z 16 (.ixAddr 1 (.t 14) (.t 15)), .z 17 (.load1 (.t 16)), .z 18 (.lenSl (.t 17)), .z 19 (.move (.t 2)), .z 20 (.bin .gtr false 3 (.t 18) (.t 19))]) (.cond (.t 20) (.seq (.ops [ .z 6 (.move (.c (.bool false)))]) .ret) .skip))) (.ops [ .z 12 (.move (.t 7)), .z 13 (.bin .add true 3 (.t 12) (.c (.i 1))), .z 7 (.move (.t 13))])))))) (.seq (.ops [ .z 21 (.move (.t 0)), .z 22 (.lenSl (.t 21)), .z 23 (.move (.t 1)), .z 24 (.bin .leq false 3 (.t 22) (.t 23)), .z 6 (.move (.t 24))]) .ret)))
theorem r_kit_LightNats : resFn Tryz.prog 21 = some ⟨25, c_kit_LightNats.r, [.tmp 6]⟩ := by kernel_rfl
theorem k_kit_LightNats : c_kit_LightNats.ok = true := by kernel_rfl
theorem kit_LightNats_ok (l : List (List UInt64)) (n m : Int) (hl : l.length ≤ 9223372036854775807) : FnS Tryz.prog 21 [LN l, .i n, .i m] (.bool (decide (l.length ≤ n ∧ ∀ x ∈ l, (x.length : Int) ≤ m))) [] := by
 refine FnS.val rfl (call_body r_kit_LightNats k_kit_LightNats (by simp) ?_)
 simp [c_kit_LightNats]
 refine loop_nx (fun ρ D G N => ∃ i : Nat, D = [] ∧ N + i = l.length ∧ lk ρ 0 = LN l ∧ lk ρ 1 = .i n ∧ lk ρ 2 = .i m ∧ lk ρ 7 = .i i ∧ ∀ x ∈ l.take i, (x.length : Int) ≤ m) (N := l.length) ⟨0, by simp⟩ ?_
 rintro N ρ D G ⟨i, rfl, hN, h0, h1, h2, h7, hm⟩ Nx hNx
 by_cases hz : N = 0
 ·have hi : i = l.length := by omega
  subst hi
  rw [List.take_length] at hm
  simp [h0, h1, h7]
  exact fun _ => hm
 ·have hi : i < l.length := by omega
  by_cases hx : m < ((l.getD i []).length : Int)
  ·have hf : ¬ (l.length ≤ n ∧ ∀ x ∈ l, (x.length : Int) ≤ m) := fun h => by
    have := h.2 (l.getD i []) (by simp [hi])
    omega
   simp [hi] at hx
   simp [h0, h1, h2, h7, hi, hx]
   simpa using hf
  ·have hmi : ∀ x ∈ l.take (i + 1), (x.length : Int) ≤ m := by
    intro x hx2
    rw [List.take_succ_eq_append_getElem hi] at hx2
    rcases List.mem_append.1 hx2 with h | h
    ·exact hm x h
    ·simp at h; subst h; simpa [hi] using hx
   simp [hi] at hx
   have hx2 : ¬ m < (l[i].length : Int) := by omega
   simp [h0, h1, h2, h7, hi, hx2]
   exact ⟨by omega, hNx _ _ _ ⟨N - 1, by omega, i + 1, rfl, by omega, by simp [h0], by simp [h1], by simp [h2], by simp, hmi⟩⟩
end Go.Proofs.YtnbnhnjffiagmaaGreat
