/-
  The statement ExpandChainsSaid: the function keysmith/keysmithlaw22.ExpandChains returns true, whatever is handed in, and nothing of what was there before the call turns. No condition.
  How: the logic of the texts Lg.. over the evaluator of the texts Sv..; the functions' contracts stand in the texts Fn...
-/
import Derived.Test.YtmnciecehjcjhaaGreatRows
import Derived.Test.YtmnciecehjcjhaaGreatTg2
import Derived.WalkKit
import Derived.ProofKit
import Derived.OpenShut
namespace Go.Proofs.YtmnciecehjcjhaaGreat.expandChains
open Go.ChangeShapes Go.WideShapes Go.ChangeAt Go.RowKit

theorem own : ownKnob Tryz.prog.godebug = none := by kernel_rfl
theorem mixed : Tryz.prog.follows .mixedOrders = true := by kernel_rfl
theorem laid : laidOutB Tryz.prog = true := by kernel_rfl
theorem shapes : Go.Sv.zw8 Tryz.prog 10 Tryz.f4.params.toList = some (.cons .i (.cons (.sl .u) (.cons .bool .nil))) := by kernel_rfl
theorem run (y : (Go.Sv.ShL.cons .i (.cons (.sl .u) (.cons .bool .nil))).T) : Go.Sv.Sw Tryz.prog (.fn 4) ((Go.Sv.ShL.cons .i (.cons (.sl .u) (.cons .bool .nil))).args y) [] fun v _ => v = .bool true := by
  obtain ⟨⟨x0, h0⟩, ⟨x1, h1⟩, x2, _⟩ := y
  have h := z8x x0 x1 x2 h0 h1
  show Go.Sv.Sw _ _ [.i x0, .lst (List.flatMap (Go.Sv.Sh.enc .u) x1) x1.length 1, .bool x2] [] _
  rw [show List.flatMap (Go.Sv.Sh.enc .u) x1 = x1.map Go.Sv.LV.u from Go.Sv.flat_u x1]
  exact h
theorem reads : (Tryz.f4.params.toList.all fun t => Tryz.prog.readableRec t && decide (t < Tryz.prog.types.size)) = true := by kernel_rfl

set_option maxRecDepth 100000 in
theorem lifted (os : Os) (started : os.Started) (H : Type) (enc : TypeId × Value → H) :
    ReturnsInHanded {} Tryz.checked os 4 .any (Rows.expandChainsSpec.pre6 enc Tryz.prog Tryz.f4 Rows.expandChainsRow.domain false) (Rows.expandChainsSpec.post enc Tryz.prog Tryz.f4 false true false false) := by
  refine returnsInHanded_of_change (C := Tryz.checked) own started (by kernel_rfl) Tryz.func4
    (ChangeSpec.witness6 (enc := enc) (C := Tryz.checked) false ⟨#[], #[.int .i64 0, .slice none 0 0, .bool false], []⟩ 8 (by kernel_rfl) (by kernel_rfl) (by kernel_rfl) (by kernel_rfl)) ?_
  intro W base args ds gs before hval0 hW hcnd _
  have hval : ∀ (j : Nat) t v, Tryz.f4.params.toList[j]? = some t → args.toList[j]? = some v → Value.okWide Tryz.prog W .any base t v := fun j t v h1 h2 => hval0 j t v (by simpa using h1) (by simpa using h2)
  have hW' := hW
  obtain ⟨p, q, hA, hV, rfl, hfz, hnd⟩ := hW
  refine (Go.Sv.na mixed shapes run hA (fun b o h => hfz b o (List.mem_append_left _ h)) hval).mono fun e W' ⟨he, hg⟩ => ?_
  subst he
  exact ⟨_, rfl, Go.Sv.ij hW' rfl (fun ds' h => by
    match ds', h with
    | [d0, d1, d2], _ => rfl) hg laid (fun t ht => by
      have h := List.all_eq_true.1 reads t ht
      rw [Bool.and_eq_true] at h
      exact ⟨h.1, of_decide_eq_true h.2⟩) rfl rfl⟩

theorem over1 : Tryz.pinned.checked.prog.funcNamed Rows.expandChainsRow.func = some 4 := by kernel_rfl
theorem join1 : laidOutB Tryz.pinned.checked.prog = true := by kernel_rfl
theorem join2 : (Rows.expandChainsRow.inPlace == Tryz.pinned.checked.prog.inPlace 4) = true := by kernel_rfl
theorem join3 : (Rows.expandChainsRow.unfollowed == Tryz.pinned.checked.prog.unfollowed 4) = true := by kernel_rfl
theorem join4 : (Rows.expandChainsRow.recurses == Tryz.pinned.checked.prog.recurses 4) = true := by kernel_rfl
theorem join5 : (Rows.expandChainsRow.named == Tryz.pinned.checked.prog.varsNamed 4) = true := by kernel_rfl
theorem join6 : mapsRowed Tryz.pinned.checked.prog = true := by kernel_rfl
theorem over2 : joinedFacts Tryz.pinned.checked.prog 4 Tryz.f4 Rows.expandChainsSpec Rows.expandChainsRow = true := by
  unfold joinedFacts
  rw [join1, join2, join3, join4, join5, join6]
  kernel_rfl
theorem over3 : Tryz.f4.isInstance Tryz.pinned.checked.prog Rows.expandChainsRow.origin Rows.expandChainsRow.targs := of_decide_eq_true (by kernel_rfl)
theorem over4 : Tryz.f4.isWrapper Tryz.pinned.checked.prog Rows.expandChainsRow.wrapper Rows.expandChainsRow.mainSum := by unfold Func.isWrapper; first | (rw [if_pos (by decide +kernel)]; kernel_rfl) | (rw [if_neg (by decide +kernel)]; exact ⟨rfl, rfl⟩)
theorem over : Rows.expandChainsRow.holds Tryz.pinned (OpenSpec.ofChange Rows.expandChainsSpec) :=
  OpenClaim.holds_of_wide 4 Tryz.f4 rfl rfl rfl rfl rfl rfl rfl ⟨rfl, rfl, rfl, rfl, rfl⟩ rfl rfl rfl rfl rfl over1 Tryz.func4 over2 over3 over4
    (fun os started H enc _ => lifted os started H enc)

/-- ████ THE STATEMENT ████ -/
theorem proved : Rows.ExpandChainsSaid :=
  over
#print axioms proved
end Go.Proofs.YtmnciecehjcjhaaGreat.expandChains
