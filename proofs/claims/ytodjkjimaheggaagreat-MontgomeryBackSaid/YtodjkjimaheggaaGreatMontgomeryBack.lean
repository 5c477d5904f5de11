/-
  The statement MontgomeryBackSaid: the function keysmith/keysmithlaw23.MontgomeryBack returns true, whatever is handed in, and nothing of what was there before the call turns. No condition.
  How: the logic of the texts Lg.. over the evaluator of the texts Sv..; the functions' contracts stand in the texts Fn...
-/
import Derived.Test.YtodjkjimaheggaaGreatRows
import Derived.Test.YtodjkjimaheggaaGreatFnMs
import Derived.WalkKit
import Derived.ProofKit
import Derived.OpenShut
namespace Go.Proofs.YtodjkjimaheggaaGreat.montgomeryBack
open Go.ChangeShapes Go.WideShapes Go.ChangeAt Go.RowKit

theorem own : ownKnob Tryz.prog.godebug = none := by kernel_rfl
theorem mixed : Tryz.prog.follows .mixedOrders = true := by kernel_rfl
theorem laid : laidOutB Tryz.prog = true := by kernel_rfl
theorem shapes : Go.Sv.zuk Tryz.prog 10 Tryz.f5.params.toList = some (.cons .i (.cons (.sl .u) (.cons (.sl .u) (.cons (.sl .u) .nil)))) := by kernel_rfl
theorem run (y : (Go.Sv.ShL.cons .i (.cons (.sl .u) (.cons (.sl .u) (.cons (.sl .u) .nil)))).T) : Go.Sv.z0k Tryz.prog (.fn 5) ((Go.Sv.ShL.cons .i (.cons (.sl .u) (.cons (.sl .u) (.cons (.sl .u) .nil)))).args y) [] fun v _ => v = .bool true := by
  obtain ⟨⟨x0, h0⟩, ⟨x1, h1⟩, ⟨x2, h2⟩, ⟨x3, h3⟩, _⟩ := y
  have h := z89 x0 x1 x2 x3
  show Go.Sv.z0k _ _ [.i x0, .lst (List.flatMap (Go.Sv.Sh.enc .u) x1) x1.length 1, .lst (List.flatMap (Go.Sv.Sh.enc .u) x2) x2.length 1, .lst (List.flatMap (Go.Sv.Sh.enc .u) x3) x3.length 1] [] _
  rw [show List.flatMap (Go.Sv.Sh.enc .u) x1 = x1.map Go.Sv.LV.u from Go.Sv.zwl x1]
  rw [show List.flatMap (Go.Sv.Sh.enc .u) x2 = x2.map Go.Sv.LV.u from Go.Sv.zwl x2]
  rw [show List.flatMap (Go.Sv.Sh.enc .u) x3 = x3.map Go.Sv.LV.u from Go.Sv.zwl x3]
  exact h
theorem reads : (Tryz.f5.params.toList.all fun t => Tryz.prog.readableRec t && decide (t < Tryz.prog.types.size)) = true := by kernel_rfl

set_option maxRecDepth 100000 in
theorem lifted (os : Os) (started : os.Started) (H : Type) (enc : TypeId × Value → H) :
    ReturnsInHanded {} Tryz.checked os 5 .any (Rows.montgomeryBackSpec.pre6 enc Tryz.prog Tryz.f5 Rows.montgomeryBackRow.domain false) (Rows.montgomeryBackSpec.post enc Tryz.prog Tryz.f5 false true false false) := by
  refine returnsInHanded_of_change (C := Tryz.checked) own started (by kernel_rfl) Tryz.func5
    (ChangeSpec.witness6 (enc := enc) (C := Tryz.checked) false ⟨#[], #[.int .i64 0, .slice none 0 0, .slice none 0 0, .slice none 0 0], []⟩ 8 (by kernel_rfl) (by kernel_rfl) (by kernel_rfl) (by kernel_rfl)) ?_
  intro W base args ds gs before hval0 hW hcnd _
  have hval : ∀ (j : Nat) t v, Tryz.f5.params.toList[j]? = some t → args.toList[j]? = some v → Value.okWide Tryz.prog W .any base t v := fun j t v h1 h2 => hval0 j t v (by simpa using h1) (by simpa using h2)
  have hW' := hW
  obtain ⟨p, q, hA, hV, rfl, hfz, hnd⟩ := hW
  refine (Go.Sv.walk_of mixed shapes run hA (fun b o h => hfz b o (List.mem_append_left _ h)) hval).mono fun e W' ⟨he, hg⟩ => ?_
  subst he
  exact ⟨_, rfl, Go.Sv.law_post hW' rfl (fun ds' h => by
    match ds', h with
    | [d0, d1, d2, d3], _ => rfl) hg laid (fun t ht => by
      have h := List.all_eq_true.1 reads t ht
      rw [Bool.and_eq_true] at h
      exact ⟨h.1, of_decide_eq_true h.2⟩) rfl rfl⟩

theorem over1 : Tryz.pinned.checked.prog.funcNamed Rows.montgomeryBackRow.func = some 5 := by kernel_rfl
theorem join1 : laidOutB Tryz.pinned.checked.prog = true := by kernel_rfl
theorem join2 : (Rows.montgomeryBackRow.inPlace == Tryz.pinned.checked.prog.inPlace 5) = true := by kernel_rfl
theorem join3 : (Rows.montgomeryBackRow.unfollowed == Tryz.pinned.checked.prog.unfollowed 5) = true := by kernel_rfl
theorem join4 : (Rows.montgomeryBackRow.recurses == Tryz.pinned.checked.prog.recurses 5) = true := by kernel_rfl
theorem join5 : (Rows.montgomeryBackRow.named == Tryz.pinned.checked.prog.varsNamed 5) = true := by kernel_rfl
theorem join6 : mapsRowed Tryz.pinned.checked.prog = true := by kernel_rfl
theorem over2 : joinedFacts Tryz.pinned.checked.prog 5 Tryz.f5 Rows.montgomeryBackSpec Rows.montgomeryBackRow = true := by
  unfold joinedFacts
  rw [join1, join2, join3, join4, join5, join6]
  kernel_rfl
theorem over3 : Tryz.f5.isInstance Tryz.pinned.checked.prog Rows.montgomeryBackRow.origin Rows.montgomeryBackRow.targs := of_decide_eq_true (by kernel_rfl)
theorem over4 : Tryz.f5.isWrapper Tryz.pinned.checked.prog Rows.montgomeryBackRow.wrapper Rows.montgomeryBackRow.mainSum := by unfold Func.isWrapper; first | (rw [if_pos (by decide +kernel)]; kernel_rfl) | (rw [if_neg (by decide +kernel)]; exact ⟨rfl, rfl⟩)
theorem over : Rows.montgomeryBackRow.holds Tryz.pinned (OpenSpec.ofChange Rows.montgomeryBackSpec) :=
  OpenClaim.holds_of_wide 5 Tryz.f5 rfl rfl rfl rfl rfl rfl rfl ⟨rfl, rfl, rfl, rfl, rfl⟩ rfl rfl rfl rfl rfl over1 Tryz.func5 over2 over3 over4
    (fun os started H enc _ => lifted os started H enc)

/-- ████ THE STATEMENT ████ -/
theorem proved : Rows.MontgomeryBackSaid :=
  over
#print axioms proved
end Go.Proofs.YtodjkjimaheggaaGreat.montgomeryBack
