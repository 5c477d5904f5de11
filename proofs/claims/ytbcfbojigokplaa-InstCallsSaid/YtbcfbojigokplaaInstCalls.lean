/-
  The statement InstCallsSaid: the function keysmith/keysmithlaw05.InstCalls returns true, whatever is handed in, and nothing of what was there before the call turns. No condition.
  How: the logic of the texts Lg.. over the evaluator of the texts Sv..; the functions' contracts stand in the texts Fn...
-/
import Derived.Test.YtbcfbojigokplaaRows
import Derived.Test.YtbcfbojigokplaaFnCa
import Derived.WalkKit
import Derived.ProofKit
import Derived.OpenShut
namespace Go.Proofs.Ytbcfbojigokplaa.instCalls
open Go.ChangeShapes Go.WideShapes Go.ChangeAt Go.RowKit

theorem own : ownKnob Try.prog.godebug = none := by kernel_rfl
theorem mixed : Try.prog.follows .mixedOrders = true := by kernel_rfl
theorem laid : laidOutB Try.prog = true := by kernel_rfl
theorem shapes : Go.Sv.shsOf Try.prog 10 Try.f7.params.toList = some (.cons (.st (.cons .i (.cons .i (.cons .i (.cons .i (.cons (.st (.cons .i (.cons .i (.cons .i (.cons .i .nil))))) (.cons .i .nil))))))) (.cons .i (.cons .i .nil))) := by kernel_rfl
theorem run (y : (Go.Sv.ShL.cons (.st (.cons .i (.cons .i (.cons .i (.cons .i (.cons (.st (.cons .i (.cons .i (.cons .i (.cons .i .nil))))) (.cons .i .nil))))))) (.cons .i (.cons .i .nil))).T) : Go.Sv.CallL Try.prog (.fn 7) ((Go.Sv.ShL.cons (.st (.cons .i (.cons .i (.cons .i (.cons .i (.cons (.st (.cons .i (.cons .i (.cons .i (.cons .i .nil))))) (.cons .i .nil))))))) (.cons .i (.cons .i .nil))).args y) [] fun v _ => v = .bool true := by
  obtain ⟨⟨⟨a0, _⟩, ⟨a1, _⟩, ⟨a2, _⟩, ⟨a3, _⟩, ⟨⟨a4, _⟩, ⟨a5, _⟩, ⟨a6, _⟩, ⟨a7, p7⟩, _⟩, ⟨a8, p8⟩, _⟩, ⟨x1, h1⟩, ⟨x2, h2⟩, _⟩ := y
  have h := law05_InstCalls_run ⟨a0, a1, a2, a3, a4, a5, a6, a7, a8⟩ x1 x2 p8 p7 h1 h2
  show Go.Sv.CallL _ _ [.agg [.i a0, .i a1, .i a2, .i a3, .i a4, .i a5, .i a6, .i a7, .i a8], .i x1, .i x2] [] _
  exact h
theorem reads : (Try.f7.params.toList.all fun t => Try.prog.readableRec t && decide (t < Try.prog.types.size)) = true := by kernel_rfl

set_option maxRecDepth 100000 in
theorem lifted (os : Os) (started : os.Started) (H : Type) (enc : TypeId × Value → H) :
    ReturnsInHanded {} Try.checked os 7 .any (Rows.instCallsSpec.pre6 enc Try.prog Try.f7 Rows.instCallsRow.domain false) (Rows.instCallsSpec.post enc Try.prog Try.f7 false true false false) := by
  refine returnsInHanded_of_change (C := Try.checked) own started (by kernel_rfl) Try.func7
    (ChangeSpec.witness6 (enc := enc) (C := Try.checked) false ⟨#[], #[.agg #[.int .i64 0, .int .i64 0, .int .i64 0, .int .i64 0, .int .i64 0, .int .i64 0, .int .i64 0, .int .i64 0, .int .i64 0], .int .i64 0, .int .i64 0], []⟩ 8 (by kernel_rfl) (by kernel_rfl) (by kernel_rfl) (by kernel_rfl)) ?_
  intro W base args ds gs before hval0 hW hcnd _
  have hval : ∀ (j : Nat) t v, Try.f7.params.toList[j]? = some t → args.toList[j]? = some v → Value.okWide Try.prog W .any base t v := fun j t v h1 h2 => hval0 j t v (by simpa using h1) (by simpa using h2)
  have hW' := hW
  obtain ⟨p, q, hA, hV, rfl, hfz, hnd⟩ := hW
  refine (Go.Sv.walk_of mixed shapes run hA (fun b o h => hfz b o (List.mem_append_left _ h)) hval).mono fun e W' ⟨he, hg⟩ => ?_
  subst he
  exact ⟨_, rfl, Go.Sv.law_post hW' rfl (fun ds' h => by
    match ds', h with
    | [d0, d1, d2], _ => rfl) hg laid (fun t ht => by
      have h := List.all_eq_true.1 reads t ht
      rw [Bool.and_eq_true] at h
      exact ⟨h.1, of_decide_eq_true h.2⟩) rfl rfl⟩

theorem over : Rows.instCallsRow.holds Try.pinned (OpenSpec.ofChange Rows.instCallsSpec) :=
  OpenClaim.holds_of_wide 7 Try.f7 rfl rfl rfl rfl rfl rfl rfl ⟨rfl, rfl, rfl, rfl, rfl⟩ rfl rfl rfl rfl rfl (by kernel_rfl) Try.func7 (by kernel_rfl)
    (of_decide_eq_true (by kernel_rfl)) (by unfold Func.isWrapper; first | (rw [if_pos (by decide +kernel)]; kernel_rfl) | (rw [if_neg (by decide +kernel)]; exact ⟨rfl, rfl⟩))
    (fun os started H enc _ => lifted os started H enc)

/-- ████ THE STATEMENT ████ -/
theorem proved : Rows.InstCallsSaid :=
  over
#print axioms proved
end Go.Proofs.Ytbcfbojigokplaa.instCalls
