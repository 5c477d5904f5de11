/-
  The statement LengthsValuesSaid: the function keysmith/keysmithlaw19.LengthsValues returns true, whatever is handed in, and nothing of what was there before the call turns. No condition.
  How: the logic of the texts Lg.. over the evaluator of the texts Sv..; the functions' contracts stand in the texts Fn...
-/
import Derived.Test.YtlmmcachokiabaaGreatRows
import Derived.Test.YtlmmcachokiabaaGreatFnLx
import Derived.WalkKit
import Derived.ProofKit
import Derived.OpenShut
namespace Go.Proofs.YtlmmcachokiabaaGreat.lengthsValues
open Go.ChangeShapes Go.WideShapes Go.ChangeAt Go.RowKit

theorem own : ownKnob Tryz.prog.godebug = none := by kernel_rfl
theorem mixed : Tryz.prog.follows .mixedOrders = true := by kernel_rfl
theorem laid : laidOutB Tryz.prog = true := by kernel_rfl
theorem shapes : Go.Sv.shsOf Tryz.prog 10 Tryz.f3.params.toList = some (.cons (.st (.cons .i (.cons (.sl (.st (.cons .str (.cons .i .nil)))) .nil))) (.cons (.st (.cons .i (.cons (.sl (.st (.cons .str (.cons .i .nil)))) .nil))) (.cons (.sl .str) (.cons (.sl .i) (.cons .str (.cons .i .nil)))))) := by kernel_rfl
theorem run (y : (Go.Sv.ShL.cons (.st (.cons .i (.cons (.sl (.st (.cons .str (.cons .i .nil)))) .nil))) (.cons (.st (.cons .i (.cons (.sl (.st (.cons .str (.cons .i .nil)))) .nil))) (.cons (.sl .str) (.cons (.sl .i) (.cons .str (.cons .i .nil)))))).T) : Go.Sv.CallL Tryz.prog (.fn 3) ((Go.Sv.ShL.cons (.st (.cons .i (.cons (.sl (.st (.cons .str (.cons .i .nil)))) .nil))) (.cons (.st (.cons .i (.cons (.sl (.st (.cons .str (.cons .i .nil)))) .nil))) (.cons (.sl .str) (.cons (.sl .i) (.cons .str (.cons .i .nil)))))).args y) [] fun v _ => v = .bool true := by
  obtain ⟨⟨⟨c0, _⟩, ⟨x0, h0⟩, _⟩, ⟨⟨c1, _⟩, ⟨x1, h1⟩, _⟩, ⟨x2, h2⟩, ⟨x3, h3⟩, ⟨x4, h4⟩, ⟨x5, h5⟩, _⟩ := y
  have h := law19_LengthsValues_run c0 (x0.map fun e => (e.1.1, e.2.1.1)) c1 (x1.map fun e => (e.1.1, e.2.1.1)) (x2.map (·.1)) (x3.map (·.1)) x4 x5 (Nat.le_trans (Nat.le_of_eq (List.length_map _)) h0) (Nat.le_trans (Nat.le_of_eq (List.length_map _)) h1) (Nat.le_trans (Nat.le_of_eq (List.length_map _)) h2) (Nat.le_trans (Nat.le_of_eq (List.length_map _)) h3) h4 h5
  show Go.Sv.CallL _ _ [.agg [.i c0, .lst (List.flatMap (Go.Sv.ShL.enc (.cons .str (.cons .i .nil))) x0) x0.length 2], .agg [.i c1, .lst (List.flatMap (Go.Sv.ShL.enc (.cons .str (.cons .i .nil))) x1) x1.length 2], .lst (List.flatMap (Go.Sv.Sh.enc .str) x2) x2.length 1, .lst (List.flatMap (Go.Sv.Sh.enc .i) x3) x3.length 1, .str x4, .i x5] [] _
  rw [show List.flatMap (Go.Sv.ShL.enc (.cons .str (.cons .i .nil))) x0 = Go.Sv.tmC (x0.map fun e => (e.1.1, e.2.1.1)) from Go.Sv.flat_tm x0]
  rw [show x0.length = (x0.map fun e => ((e.1.1, e.2.1.1) : Go.Sv.Tm)).length from (List.length_map _).symm]
  rw [show List.flatMap (Go.Sv.ShL.enc (.cons .str (.cons .i .nil))) x1 = Go.Sv.tmC (x1.map fun e => (e.1.1, e.2.1.1)) from Go.Sv.flat_tm x1]
  rw [show x1.length = (x1.map fun e => ((e.1.1, e.2.1.1) : Go.Sv.Tm)).length from (List.length_map _).symm]
  rw [show List.flatMap (Go.Sv.Sh.enc .str) x2 = (x2.map (·.1)).map Go.Sv.LV.str from Go.Sv.flat_S x2]
  rw [show x2.length = (x2.map (·.1)).length from (List.length_map _).symm]
  rw [show List.flatMap (Go.Sv.Sh.enc .i) x3 = (x3.map (·.1)).map Go.Sv.LV.i from Go.Sv.flat_I x3]
  rw [show x3.length = (x3.map (·.1)).length from (List.length_map _).symm]
  exact h
theorem reads : (Tryz.f3.params.toList.all fun t => Tryz.prog.readableRec t && decide (t < Tryz.prog.types.size)) = true := by kernel_rfl

set_option maxRecDepth 100000 in
theorem lifted (os : Os) (started : os.Started) (H : Type) (enc : TypeId × Value → H) :
    ReturnsInHanded {} Tryz.checked os 3 .any (Rows.lengthsValuesSpec.pre6 enc Tryz.prog Tryz.f3 Rows.lengthsValuesRow.domain false) (Rows.lengthsValuesSpec.post enc Tryz.prog Tryz.f3 false true false false) := by
  refine returnsInHanded_of_change (C := Tryz.checked) own started (by kernel_rfl) Tryz.func3
    (ChangeSpec.witness6 (enc := enc) (C := Tryz.checked) false ⟨#[], #[.agg #[.int .i64 0, .slice none 0 0], .agg #[.int .i64 0, .slice none 0 0], .slice none 0 0, .slice none 0 0, .string ⟨#[]⟩, .int .i64 0], []⟩ 8 (by kernel_rfl) (by kernel_rfl) (by kernel_rfl) (by kernel_rfl)) ?_
  intro W base args ds gs before hval0 hW hcnd _
  have hval : ∀ (j : Nat) t v, Tryz.f3.params.toList[j]? = some t → args.toList[j]? = some v → Value.okWide Tryz.prog W .any base t v := fun j t v h1 h2 => hval0 j t v (by simpa using h1) (by simpa using h2)
  have hW' := hW
  obtain ⟨p, q, hA, hV, rfl, hfz, hnd⟩ := hW
  refine (Go.Sv.walk_of mixed shapes run hA (fun b o h => hfz b o (List.mem_append_left _ h)) hval).mono fun e W' ⟨he, hg⟩ => ?_
  subst he
  exact ⟨_, rfl, Go.Sv.law_post hW' rfl (fun ds' h => by
    match ds', h with
    | [d0, d1, d2, d3, d4, d5], _ => rfl) hg laid (fun t ht => by
      have h := List.all_eq_true.1 reads t ht
      rw [Bool.and_eq_true] at h
      exact ⟨h.1, of_decide_eq_true h.2⟩) rfl rfl⟩

theorem over : Rows.lengthsValuesRow.holds Tryz.pinned (OpenSpec.ofChange Rows.lengthsValuesSpec) :=
  OpenClaim.holds_of_wide 3 Tryz.f3 rfl rfl rfl rfl rfl rfl rfl ⟨rfl, rfl, rfl, rfl, rfl⟩ rfl rfl rfl rfl rfl (by kernel_rfl) Tryz.func3 (by kernel_rfl)
    (of_decide_eq_true (by kernel_rfl)) (by unfold Func.isWrapper; first | (rw [if_pos (by decide +kernel)]; kernel_rfl) | (rw [if_neg (by decide +kernel)]; exact ⟨rfl, rfl⟩))
    (fun os started H enc _ => lifted os started H enc)

/-- ████ THE STATEMENT ████ -/
theorem proved : Rows.LengthsValuesSaid :=
  over
#print axioms proved
end Go.Proofs.YtlmmcachokiabaaGreat.lengthsValues
