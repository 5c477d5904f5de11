/-
  The statement PowerSameSaid: the function keysmith/keysmithlaw24.PowerSame returns true, whatever is handed in, and nothing of what was there before the call turns. No condition.
  How: the logic of the texts Lg.. over the evaluator of the texts Sv..; the functions' contracts stand in the texts Fn...
-/
import Derived.Test.YtodjkjimaheggaaGreatRows
import Derived.Test.YtodjkjimaheggaaGreatTg2
import Derived.WalkKit
import Derived.ProofKit
import Derived.OpenShut
namespace Go.Proofs.YtodjkjimaheggaaGreat.powerSame
open Go.ChangeShapes Go.WideShapes Go.ChangeAt Go.RowKit

theorem own : ownKnob Tryz.prog.godebug = none := by kernel_rfl
theorem mixed : Tryz.prog.follows .mixedOrders = true := by kernel_rfl
theorem laid : laidOutB Tryz.prog = true := by kernel_rfl
theorem shapes : Go.Sv.zz4 Tryz.prog 10 Tryz.f12.params.toList = some (.cons .u (.cons .u (.cons .u (.cons .u (.cons .i (.cons .i .nil)))))) := by kernel_rfl
theorem run (y : (Go.Sv.ShL.cons .u (.cons .u (.cons .u (.cons .u (.cons .i (.cons .i .nil)))))).T) : Go.Sv.Ju Tryz.prog (.fn 12) ((Go.Sv.ShL.cons .u (.cons .u (.cons .u (.cons .u (.cons .i (.cons .i .nil)))))).args y) [] fun v _ => v = .bool true := by
  obtain ⟨x0, x1, x2, x3, ⟨x4, h4⟩, ⟨x5, h5⟩, _⟩ := y
  have h := zdn x0 x1 x2 x3 x4 x5 h4 h5
  show Go.Sv.Ju _ _ [.u x0, .u x1, .u x2, .u x3, .i x4, .i x5] [] _
  exact h
theorem reads : (Tryz.f12.params.toList.all fun t => Tryz.prog.readableRec t && decide (t < Tryz.prog.types.size)) = true := by kernel_rfl

set_option maxRecDepth 100000 in
theorem lifted (os : Os) (started : os.Started) (H : Type) (enc : TypeId × Value → H) :
    ReturnsInHanded {} Tryz.checked os 12 .any (Rows.powerSameSpec.pre6 enc Tryz.prog Tryz.f12 Rows.powerSameRow.domain false) (Rows.powerSameSpec.post enc Tryz.prog Tryz.f12 false true false false) := by
  refine returnsInHanded_of_change (C := Tryz.checked) own started (by kernel_rfl) Tryz.func12
    (ChangeSpec.witness6 (enc := enc) (C := Tryz.checked) false ⟨#[], #[.int .u64 0, .int .u64 0, .int .u64 0, .int .u64 0, .int .i64 0, .int .i64 0], []⟩ 8 (by kernel_rfl) (by kernel_rfl) (by kernel_rfl) (by kernel_rfl)) ?_
  intro W base args ds gs before hval0 hW hcnd _
  have hval : ∀ (j : Nat) t v, Tryz.f12.params.toList[j]? = some t → args.toList[j]? = some v → Value.okWide Tryz.prog W .any base t v := fun j t v h1 h2 => hval0 j t v (by simpa using h1) (by simpa using h2)
  have hW' := hW
  obtain ⟨p, q, hA, hV, rfl, hfz, hnd⟩ := hW
  refine (Go.Sv.jo mixed shapes run hA (fun b o h => hfz b o (List.mem_append_left _ h)) hval).mono fun e W' ⟨he, hg⟩ => ?_
  subst he
  exact ⟨_, rfl, Go.Sv.Wy hW' rfl (fun ds' h => by
    match ds', h with
    | [d0, d1, d2, d3, d4, d5], _ => rfl) hg laid (fun t ht => by
      have h := List.all_eq_true.1 reads t ht
      rw [Bool.and_eq_true] at h
      exact ⟨h.1, of_decide_eq_true h.2⟩) rfl rfl⟩

theorem over1 : Tryz.pinned.checked.prog.funcNamed Rows.powerSameRow.func = some 12 := by kernel_rfl
theorem join1 : laidOutB Tryz.pinned.checked.prog = true := by kernel_rfl
theorem join2 : (Rows.powerSameRow.inPlace == Tryz.pinned.checked.prog.inPlace 12) = true := by kernel_rfl
theorem join3 : (Rows.powerSameRow.unfollowed == Tryz.pinned.checked.prog.unfollowed 12) = true := by kernel_rfl
theorem join4 : (Rows.powerSameRow.recurses == Tryz.pinned.checked.prog.recurses 12) = true := by kernel_rfl
theorem join5 : (Rows.powerSameRow.named == Tryz.pinned.checked.prog.varsNamed 12) = true := by kernel_rfl
theorem join6 : mapsRowed Tryz.pinned.checked.prog = true := by kernel_rfl
theorem over2 : joinedFacts Tryz.pinned.checked.prog 12 Tryz.f12 Rows.powerSameSpec Rows.powerSameRow = true := by
  unfold joinedFacts
  rw [join1, join2, join3, join4, join5, join6]
  kernel_rfl
theorem over3 : Tryz.f12.isInstance Tryz.pinned.checked.prog Rows.powerSameRow.origin Rows.powerSameRow.targs := of_decide_eq_true (by kernel_rfl)
theorem over4 : Tryz.f12.isWrapper Tryz.pinned.checked.prog Rows.powerSameRow.wrapper Rows.powerSameRow.mainSum := by unfold Func.isWrapper; first | (rw [if_pos (by decide +kernel)]; kernel_rfl) | (rw [if_neg (by decide +kernel)]; exact ⟨rfl, rfl⟩)
theorem over : Rows.powerSameRow.holds Tryz.pinned (OpenSpec.ofChange Rows.powerSameSpec) :=
  OpenClaim.holds_of_wide 12 Tryz.f12 rfl rfl rfl rfl rfl rfl rfl ⟨rfl, rfl, rfl, rfl, rfl⟩ rfl rfl rfl rfl rfl over1 Tryz.func12 over2 over3 over4
    (fun os started H enc _ => lifted os started H enc)

/-- ████ THE STATEMENT ████ -/
theorem proved : Rows.PowerSameSaid :=
  over
#print axioms proved
end Go.Proofs.YtodjkjimaheggaaGreat.powerSame
