/-
  The statement BuffersRightSaid: the function keysmith/keysmithlaw25.BuffersRight returns true, whatever is handed in, and nothing of what was there before the call turns. No condition.
  How: the logic of the texts Lg.. over the evaluator of the texts Sv..; the functions' contracts stand in the texts Fn...
-/
import Derived.Test.YtgjbfhmmgeplmaaGreatRows
import Derived.Test.YtgjbfhmmgeplmaaGreatTg3
import Derived.WalkKit
import Derived.ProofKit
import Derived.OpenShut
namespace Go.Proofs.YtgjbfhmmgeplmaaGreat.buffersRight
open Go.ChangeShapes Go.WideShapes Go.ChangeAt Go.RowKit

theorem own : ownKnob Tryz.prog.godebug = none := by kernel_rfl
theorem mixed : Tryz.prog.follows .mixedOrders = true := by kernel_rfl
theorem laid : laidOutB Tryz.prog = true := by kernel_rfl
theorem shapes : Go.Sv.xq Tryz.prog 10 Tryz.f3.params.toList = some (.cons (.st (.cons (.sl (.st (.cons .i (.cons .bool (.cons .i .nil))))) (.cons (.sl (.st (.cons .i (.cons .i (.cons .i (.cons .i (.cons .i (.cons .i (.cons .u .nil))))))))) (.cons (.sl (.st (.cons .i (.cons .i (.cons .i (.cons .i (.cons .i (.cons .i (.cons .u .nil))))))))) .nil)))) .nil) := by kernel_rfl
theorem run (y : (Go.Sv.ShL.cons (.st (.cons (.sl (.st (.cons .i (.cons .bool (.cons .i .nil))))) (.cons (.sl (.st (.cons .i (.cons .i (.cons .i (.cons .i (.cons .i (.cons .i (.cons .u .nil))))))))) (.cons (.sl (.st (.cons .i (.cons .i (.cons .i (.cons .i (.cons .i (.cons .i (.cons .u .nil))))))))) .nil)))) .nil).T) : Go.Sv.Qq Tryz.prog (.fn 3) ((Go.Sv.ShL.cons (.st (.cons (.sl (.st (.cons .i (.cons .bool (.cons .i .nil))))) (.cons (.sl (.st (.cons .i (.cons .i (.cons .i (.cons .i (.cons .i (.cons .i (.cons .u .nil))))))))) (.cons (.sl (.st (.cons .i (.cons .i (.cons .i (.cons .i (.cons .i (.cons .i (.cons .u .nil))))))))) .nil)))) .nil).args y) [] fun v _ => v = .bool true := by
  obtain ⟨⟨⟨v0, hv0⟩, ⟨p0, hp0⟩, ⟨r0, hr0⟩, _⟩, _⟩ := y
  have h := z9k (v0.map Go.Sv.vrT) (p0.map Go.Sv.m7) (r0.map Go.Sv.m7) (Nat.le_trans (Nat.le_of_eq (List.length_map _)) hv0) (Nat.le_trans (Nat.le_of_eq (List.length_map _)) hp0) (Nat.le_trans (Nat.le_of_eq (List.length_map _)) hr0)
  show Go.Sv.Qq _ _ [.agg [.lst (List.flatMap (Go.Sv.ShL.enc (.cons .i (.cons .bool (.cons .i .nil)))) v0) v0.length 3, .lst (List.flatMap (Go.Sv.ShL.enc (.cons .i (.cons .i (.cons .i (.cons .i (.cons .i (.cons .i (.cons .u .nil)))))))) p0) p0.length 7, .lst (List.flatMap (Go.Sv.ShL.enc (.cons .i (.cons .i (.cons .i (.cons .i (.cons .i (.cons .i (.cons .u .nil)))))))) r0) r0.length 7]] [] _
  rw [show List.flatMap (Go.Sv.ShL.enc (.cons .i (.cons .bool (.cons .i .nil)))) v0 = Go.Sv.Mz (v0.map Go.Sv.vrT) from Go.Sv.flat_vr v0]
  rw [show v0.length = (v0.map Go.Sv.vrT).length from (List.length_map _).symm]
  rw [show List.flatMap (Go.Sv.ShL.enc (.cons .i (.cons .i (.cons .i (.cons .i (.cons .i (.cons .i (.cons .u .nil)))))))) p0 = Go.Sv.M6 (p0.map Go.Sv.m7) from Go.Sv.flat_ko p0]
  rw [show p0.length = (p0.map Go.Sv.m7).length from (List.length_map _).symm]
  rw [show List.flatMap (Go.Sv.ShL.enc (.cons .i (.cons .i (.cons .i (.cons .i (.cons .i (.cons .i (.cons .u .nil)))))))) r0 = Go.Sv.M6 (r0.map Go.Sv.m7) from Go.Sv.flat_ko r0]
  rw [show r0.length = (r0.map Go.Sv.m7).length from (List.length_map _).symm]
  exact h
theorem reads : (Tryz.f3.params.toList.all fun t => Tryz.prog.readableRec t && decide (t < Tryz.prog.types.size)) = true := by kernel_rfl

set_option maxRecDepth 100000 in
theorem lifted (os : Os) (started : os.Started) (H : Type) (enc : TypeId × Value → H) :
    ReturnsInHanded {} Tryz.checked os 3 .any (Rows.buffersRightSpec.pre6 enc Tryz.prog Tryz.f3 Rows.buffersRightRow.domain false) (Rows.buffersRightSpec.post enc Tryz.prog Tryz.f3 false true false false) := by
  refine returnsInHanded_of_change (C := Tryz.checked) own started (by kernel_rfl) Tryz.func3
    (ChangeSpec.witness6 (enc := enc) (C := Tryz.checked) false ⟨#[], #[.agg #[.slice none 0 0, .slice none 0 0, .slice none 0 0]], []⟩ 8 (by kernel_rfl) (by kernel_rfl) (by kernel_rfl) (by kernel_rfl)) ?_
  intro W base args ds gs before hval0 hW hcnd _
  have hval : ∀ (j : Nat) t v, Tryz.f3.params.toList[j]? = some t → args.toList[j]? = some v → Value.okWide Tryz.prog W .any base t v := fun j t v h1 h2 => hval0 j t v (by simpa using h1) (by simpa using h2)
  have hW' := hW
  obtain ⟨p, q, hA, hV, rfl, hfz, hnd⟩ := hW
  refine (Go.Sv.gu mixed shapes run hA (fun b o h => hfz b o (List.mem_append_left _ h)) hval).mono fun e W' ⟨he, hg⟩ => ?_
  subst he
  exact ⟨_, rfl, Go.Sv.Y8 hW' rfl (fun ds' h => by
    match ds', h with
    | [d0], _ => rfl) hg laid (fun t ht => by
      have h := List.all_eq_true.1 reads t ht
      rw [Bool.and_eq_true] at h
      exact ⟨h.1, of_decide_eq_true h.2⟩) rfl rfl⟩

theorem over1 : Tryz.pinned.checked.prog.funcNamed Rows.buffersRightRow.func = some 3 := by kernel_rfl
theorem join1 : laidOutB Tryz.pinned.checked.prog = true := by kernel_rfl
theorem join2 : (Rows.buffersRightRow.inPlace == Tryz.pinned.checked.prog.inPlace 3) = true := by kernel_rfl
theorem join3 : (Rows.buffersRightRow.unfollowed == Tryz.pinned.checked.prog.unfollowed 3) = true := by kernel_rfl
theorem join4 : (Rows.buffersRightRow.recurses == Tryz.pinned.checked.prog.recurses 3) = true := by kernel_rfl
theorem join5 : (Rows.buffersRightRow.named == Tryz.pinned.checked.prog.varsNamed 3) = true := by kernel_rfl
theorem join6 : mapsRowed Tryz.pinned.checked.prog = true := by kernel_rfl
theorem over2 : joinedFacts Tryz.pinned.checked.prog 3 Tryz.f3 Rows.buffersRightSpec Rows.buffersRightRow = true := by
  unfold joinedFacts
  rw [join1, join2, join3, join4, join5, join6]
  kernel_rfl
theorem over3 : Tryz.f3.isInstance Tryz.pinned.checked.prog Rows.buffersRightRow.origin Rows.buffersRightRow.targs := of_decide_eq_true (by kernel_rfl)
theorem over4 : Tryz.f3.isWrapper Tryz.pinned.checked.prog Rows.buffersRightRow.wrapper Rows.buffersRightRow.mainSum := by unfold Func.isWrapper; first | (rw [if_pos (by decide +kernel)]; kernel_rfl) | (rw [if_neg (by decide +kernel)]; exact ⟨rfl, rfl⟩)
theorem over : Rows.buffersRightRow.holds Tryz.pinned (OpenSpec.ofChange Rows.buffersRightSpec) :=
  OpenClaim.holds_of_wide 3 Tryz.f3 rfl rfl rfl rfl rfl rfl rfl ⟨rfl, rfl, rfl, rfl, rfl⟩ rfl rfl rfl rfl rfl over1 Tryz.func3 over2 over3 over4
    (fun os started H enc _ => lifted os started H enc)

/-- ████ THE STATEMENT ████ -/
theorem proved : Rows.BuffersRightSaid :=
  over
#print axioms proved
end Go.Proofs.YtgjbfhmmgeplmaaGreat.buffersRight
