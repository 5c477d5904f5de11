/-
  The statement ModularRingSaid: the function keysmith/keysmithlaw03.ModularRing returns true, whatever is handed in, and nothing of what was there before the call turns. No condition.
  How: the logic of the texts Lg.. over the evaluator of the texts Sv..; the functions' contracts stand in the texts Fn...
-/
import Derived.Test.YtlfffpmdofacjaaRows
import Derived.Test.YtlfffpmdofacjaaFnRing
import Derived.WalkKit
import Derived.ProofKit
import Derived.OpenShut
namespace Go.Proofs.Ytlfffpmdofacjaa.modularRing
open Go.ChangeShapes Go.WideShapes Go.ChangeAt Go.RowKit

theorem own : ownKnob Try.prog.godebug = none := by kernel_rfl
theorem mixed : Try.prog.follows .mixedOrders = true := by kernel_rfl
theorem laid : laidOutB Try.prog = true := by kernel_rfl
theorem shapes : Go.Sv.shsOf Try.prog 10 Try.f6.params.toList = some (.cons (.sl .u) (.cons (.sl .u) (.cons (.sl .u) (.cons (.sl .u) (.cons .u (.cons .u .nil)))))) := by kernel_rfl
theorem run (y : (Go.Sv.ShL.cons (.sl .u) (.cons (.sl .u) (.cons (.sl .u) (.cons (.sl .u) (.cons .u (.cons .u .nil)))))).T) : Go.Sv.CallL Try.prog (.fn 6) ((Go.Sv.ShL.cons (.sl .u) (.cons (.sl .u) (.cons (.sl .u) (.cons (.sl .u) (.cons .u (.cons .u .nil)))))).args y) [] fun v _ => v = .bool true := by
  obtain ⟨⟨x0, h0⟩, ⟨x1, h1⟩, ⟨x2, h2⟩, ⟨x3, h3⟩, x4, x5, _⟩ := y
  have h := law03_ModularRing_run x0 x1 x2 x3 x4 x5 h0 h1 h2 h3
  show Go.Sv.CallL _ _ [.lst (List.flatMap (Go.Sv.Sh.enc .u) x0) x0.length 1, .lst (List.flatMap (Go.Sv.Sh.enc .u) x1) x1.length 1, .lst (List.flatMap (Go.Sv.Sh.enc .u) x2) x2.length 1, .lst (List.flatMap (Go.Sv.Sh.enc .u) x3) x3.length 1, .u x4, .u x5] [] _
  rw [show List.flatMap (Go.Sv.Sh.enc .u) x0 = x0.map Go.Sv.LV.u from Go.Sv.flat_u x0]
  rw [show List.flatMap (Go.Sv.Sh.enc .u) x1 = x1.map Go.Sv.LV.u from Go.Sv.flat_u x1]
  rw [show List.flatMap (Go.Sv.Sh.enc .u) x2 = x2.map Go.Sv.LV.u from Go.Sv.flat_u x2]
  rw [show List.flatMap (Go.Sv.Sh.enc .u) x3 = x3.map Go.Sv.LV.u from Go.Sv.flat_u x3]
  exact h
theorem reads : (Try.f6.params.toList.all fun t => Try.prog.readableRec t && decide (t < Try.prog.types.size)) = true := by kernel_rfl

set_option maxRecDepth 100000 in
theorem lifted (os : Os) (started : os.Started) (H : Type) (enc : TypeId × Value → H) :
    ReturnsInHanded {} Try.checked os 6 .any (Rows.modularRingSpec.pre6 enc Try.prog Try.f6 Rows.modularRingRow.domain false) (Rows.modularRingSpec.post enc Try.prog Try.f6 false true false false) := by
  refine returnsInHanded_of_change (C := Try.checked) own started (by kernel_rfl) Try.func6
    (ChangeSpec.witness6 (enc := enc) (C := Try.checked) false ⟨#[], #[.slice none 0 0, .slice none 0 0, .slice none 0 0, .slice none 0 0, .int .u64 0, .int .u64 0], []⟩ 8 (by kernel_rfl) (by kernel_rfl) (by kernel_rfl) (by kernel_rfl)) ?_
  intro W base args ds gs before hval0 hW hcnd _
  have hval : ∀ (j : Nat) t v, Try.f6.params.toList[j]? = some t → args.toList[j]? = some v → Value.okWide Try.prog W .any base t v := fun j t v h1 h2 => hval0 j t v (by simpa using h1) (by simpa using h2)
  have hW' := hW
  obtain ⟨p, q, hA, hV, rfl, hfz, hnd⟩ := hW
  refine (Go.Sv.walk_of mixed shapes run hA (fun b o h => hfz b o (List.mem_append_left _ h)) hval).mono fun e W' ⟨he, hg⟩ => ?_
  subst he
  exact ⟨_, rfl, Go.Sv.law_post hW' rfl (fun ds' h => by
    match ds', h with
    | [d0, d1, d2, d3, d4, d5], _ => rfl) hg laid (fun t ht => by
      have h := List.all_eq_true.1 reads t ht
      rw [Bool.and_eq_true] at h
      exact ⟨h.1, of_decide_eq_true h.2⟩) rfl rfl⟩

theorem over : Rows.modularRingRow.holds Try.pinned (OpenSpec.ofChange Rows.modularRingSpec) :=
  OpenClaim.holds_of_wide 6 Try.f6 rfl rfl rfl rfl rfl rfl rfl ⟨rfl, rfl, rfl, rfl, rfl⟩ rfl rfl rfl rfl rfl (by kernel_rfl) Try.func6 (by kernel_rfl)
    (of_decide_eq_true (by kernel_rfl)) (by unfold Func.isWrapper; first | (rw [if_pos (by decide +kernel)]; kernel_rfl) | (rw [if_neg (by decide +kernel)]; exact ⟨rfl, rfl⟩))
    (fun os started H enc _ => lifted os started H enc)

/-- ████ THE STATEMENT ████ -/
theorem proved : Rows.ModularRingSaid :=
  over
#print axioms proved
end Go.Proofs.Ytlfffpmdofacjaa.modularRing
