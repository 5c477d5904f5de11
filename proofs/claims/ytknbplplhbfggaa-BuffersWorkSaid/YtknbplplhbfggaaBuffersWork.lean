/-
  The statement BuffersWorkSaid: the function keysmith/keysmithlaw25.BuffersWork returns true, whatever is handed in, and nothing of what was there before the call turns. No condition.
  How: the logic of the texts Lg.. over the evaluator of the texts Sv..; the functions' contracts stand in the texts Fn...
-/
import Derived.Test.YtknbplplhbfggaaRows
import Derived.Test.YtknbplplhbfggaaFnBx
import Derived.WalkKit
import Derived.ProofKit
import Derived.OpenShut
namespace Go.Proofs.Ytknbplplhbfggaa.buffersWork
open Go.ChangeShapes Go.WideShapes Go.ChangeAt Go.RowKit

theorem own : ownKnob Try.prog.godebug = none := by kernel_rfl
theorem mixed : Try.prog.follows .mixedOrders = true := by kernel_rfl
theorem laid : laidOutB Try.prog = true := by kernel_rfl
theorem shapes : Go.Sv.shsOf Try.prog 10 Try.f4.params.toList = some (.cons (.sl (.st (.cons .i (.cons .bool (.cons .i .nil))))) (.cons (.st (.cons .i (.cons .i (.cons .i (.cons .i (.cons .i (.cons .i (.cons .u .nil)))))))) .nil)) := by kernel_rfl
theorem run (y : (Go.Sv.ShL.cons (.sl (.st (.cons .i (.cons .bool (.cons .i .nil))))) (.cons (.st (.cons .i (.cons .i (.cons .i (.cons .i (.cons .i (.cons .i (.cons .u .nil)))))))) .nil)).T) : Go.Sv.CallL Try.prog (.fn 4) ((Go.Sv.ShL.cons (.sl (.st (.cons .i (.cons .bool (.cons .i .nil))))) (.cons (.st (.cons .i (.cons .i (.cons .i (.cons .i (.cons .i (.cons .i (.cons .u .nil)))))))) .nil)).args y) [] fun v _ => v = .bool true := by
  obtain ⟨⟨x0, h0⟩, ⟨⟨o1_0, _⟩, ⟨o1_1, _⟩, ⟨o1_2, _⟩, ⟨o1_3, _⟩, ⟨o1_4, _⟩, ⟨o1_5, _⟩, o1_6, _⟩, _⟩ := y
  have h := law25_BuffersWork_run (x0.map Go.Sv.vrT) ⟨o1_0, o1_1, o1_2, o1_3, o1_4, o1_5, o1_6⟩ (Nat.le_trans (Nat.le_of_eq (List.length_map _)) h0)
  show Go.Sv.CallL _ _ [.lst (List.flatMap (Go.Sv.ShL.enc (.cons .i (.cons .bool (.cons .i .nil)))) x0) x0.length 3, .agg [.i o1_0, .i o1_1, .i o1_2, .i o1_3, .i o1_4, .i o1_5, .u o1_6]] [] _
  rw [show List.flatMap (Go.Sv.ShL.enc (.cons .i (.cons .bool (.cons .i .nil)))) x0 = Go.Sv.vsC (x0.map Go.Sv.vrT) from Go.Sv.flat_vr x0]
  rw [show x0.length = (x0.map Go.Sv.vrT).length from (List.length_map _).symm]
  exact h
theorem reads : (Try.f4.params.toList.all fun t => Try.prog.readableRec t && decide (t < Try.prog.types.size)) = true := by kernel_rfl

set_option maxRecDepth 100000 in
theorem lifted (os : Os) (started : os.Started) (H : Type) (enc : TypeId × Value → H) :
    ReturnsInHanded {} Try.checked os 4 .any (Rows.buffersWorkSpec.pre6 enc Try.prog Try.f4 Rows.buffersWorkRow.domain false) (Rows.buffersWorkSpec.post enc Try.prog Try.f4 false true false false) := by
  refine returnsInHanded_of_change (C := Try.checked) own started (by kernel_rfl) Try.func4
    (ChangeSpec.witness6 (enc := enc) (C := Try.checked) false ⟨#[], #[.slice none 0 0, .agg #[.int .i64 0, .int .i64 0, .int .i64 0, .int .i64 0, .int .i64 0, .int .i64 0, .int .u64 0]], []⟩ 8 (by kernel_rfl) (by kernel_rfl) (by kernel_rfl) (by kernel_rfl)) ?_
  intro W base args ds gs before hval0 hW hcnd _
  have hval : ∀ (j : Nat) t v, Try.f4.params.toList[j]? = some t → args.toList[j]? = some v → Value.okWide Try.prog W .any base t v := fun j t v h1 h2 => hval0 j t v (by simpa using h1) (by simpa using h2)
  have hW' := hW
  obtain ⟨p, q, hA, hV, rfl, hfz, hnd⟩ := hW
  refine (Go.Sv.walk_of mixed shapes run hA (fun b o h => hfz b o (List.mem_append_left _ h)) hval).mono fun e W' ⟨he, hg⟩ => ?_
  subst he
  exact ⟨_, rfl, Go.Sv.law_post hW' rfl (fun ds' h => by
    match ds', h with
    | [d0, d1], _ => rfl) hg laid (fun t ht => by
      have h := List.all_eq_true.1 reads t ht
      rw [Bool.and_eq_true] at h
      exact ⟨h.1, of_decide_eq_true h.2⟩) rfl rfl⟩

theorem over : Rows.buffersWorkRow.holds Try.pinned (OpenSpec.ofChange Rows.buffersWorkSpec) :=
  OpenClaim.holds_of_wide 4 Try.f4 rfl rfl rfl rfl rfl rfl rfl ⟨rfl, rfl, rfl, rfl, rfl⟩ rfl rfl rfl rfl rfl (by kernel_rfl) Try.func4 (by kernel_rfl)
    (of_decide_eq_true (by kernel_rfl)) (by unfold Func.isWrapper; first | (rw [if_pos (by decide +kernel)]; kernel_rfl) | (rw [if_neg (by decide +kernel)]; exact ⟨rfl, rfl⟩))
    (fun os started H enc _ => lifted os started H enc)

/-- ████ THE STATEMENT ████ -/
theorem proved : Rows.BuffersWorkSaid :=
  over
#print axioms proved
end Go.Proofs.Ytknbplplhbfggaa.buffersWork
