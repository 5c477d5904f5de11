/-
  The statement ExpandMeansSaid: the function keysmith/keysmithlaw22.ExpandMeans returns true, whatever is handed in, and nothing of what was there before the call turns. No condition.
  How: the logic of the texts Lg.. over the evaluator of the texts Sv..; the functions' contracts stand in the texts Fn...
-/
import Derived.Test.YtmnciecehjcjhaaGreatRows
import Derived.Test.YtmnciecehjcjhaaGreatTg3
import Derived.WalkKit
import Derived.ProofKit
import Derived.OpenShut
namespace Go.Proofs.YtmnciecehjcjhaaGreat.expandMeans
open Go.ChangeShapes Go.WideShapes Go.ChangeAt Go.RowKit

theorem own : ownKnob Tryz.prog.godebug = none := by kernel_rfl
theorem mixed : Tryz.prog.follows .mixedOrders = true := by kernel_rfl
theorem laid : laidOutB Tryz.prog = true := by kernel_rfl
theorem shapes : Go.Sv.zzl Tryz.prog 10 Tryz.f3.params.toList = some (.cons (.sl (.st (.cons .i (.cons .bool (.cons .i .nil))))) (.cons (.st (.cons .i (.cons .i (.cons .i (.cons .i (.cons .i (.cons .i (.cons .u .nil)))))))) (.cons .i (.cons (.sl .u) .nil)))) := by kernel_rfl
theorem run (y : (Go.Sv.ShL.cons (.sl (.st (.cons .i (.cons .bool (.cons .i .nil))))) (.cons (.st (.cons .i (.cons .i (.cons .i (.cons .i (.cons .i (.cons .i (.cons .u .nil)))))))) (.cons .i (.cons (.sl .u) .nil)))).T) : Go.Sv.Tw Tryz.prog (.fn 3) ((Go.Sv.ShL.cons (.sl (.st (.cons .i (.cons .bool (.cons .i .nil))))) (.cons (.st (.cons .i (.cons .i (.cons .i (.cons .i (.cons .i (.cons .i (.cons .u .nil)))))))) (.cons .i (.cons (.sl .u) .nil)))).args y) [] fun v _ => v = .bool true := by
  obtain ⟨⟨x0, h0⟩, ⟨⟨o1_0, _⟩, ⟨o1_1, _⟩, ⟨o1_2, _⟩, ⟨o1_3, _⟩, ⟨o1_4, _⟩, ⟨o1_5, _⟩, o1_6, _⟩, ⟨x2, h2⟩, ⟨x3, h3⟩, _⟩ := y
  have h := zc9 (x0.map Go.Sv.vrT) ⟨o1_0, o1_1, o1_2, o1_3, o1_4, o1_5, o1_6⟩ x2 x3 (Nat.le_trans (Nat.le_of_eq (List.length_map _)) h0) h2 h3
  show Go.Sv.Tw _ _ [.lst (List.flatMap (Go.Sv.ShL.enc (.cons .i (.cons .bool (.cons .i .nil)))) x0) x0.length 3, .agg [.i o1_0, .i o1_1, .i o1_2, .i o1_3, .i o1_4, .i o1_5, .u o1_6], .i x2, .lst (List.flatMap (Go.Sv.Sh.enc .u) x3) x3.length 1] [] _
  rw [show List.flatMap (Go.Sv.ShL.enc (.cons .i (.cons .bool (.cons .i .nil)))) x0 = Go.Sv.Py (x0.map Go.Sv.vrT) from Go.Sv.flat_vr x0]
  rw [show x0.length = (x0.map Go.Sv.vrT).length from (List.length_map _).symm]
  rw [show List.flatMap (Go.Sv.Sh.enc .u) x3 = x3.map Go.Sv.LV.u from Go.Sv.flat_u x3]
  exact h
theorem reads : (Tryz.f3.params.toList.all fun t => Tryz.prog.readableRec t && decide (t < Tryz.prog.types.size)) = true := by kernel_rfl

set_option maxRecDepth 100000 in
theorem lifted (os : Os) (started : os.Started) (H : Type) (enc : TypeId × Value → H) :
    ReturnsInHanded {} Tryz.checked os 3 .any (Rows.expandMeansSpec.pre6 enc Tryz.prog Tryz.f3 Rows.expandMeansRow.domain false) (Rows.expandMeansSpec.post enc Tryz.prog Tryz.f3 false true false false) := by
  refine returnsInHanded_of_change (C := Tryz.checked) own started (by kernel_rfl) Tryz.func3
    (ChangeSpec.witness6 (enc := enc) (C := Tryz.checked) false ⟨#[], #[.slice none 0 0, .agg #[.int .i64 0, .int .i64 0, .int .i64 0, .int .i64 0, .int .i64 0, .int .i64 0, .int .u64 0], .int .i64 0, .slice none 0 0], []⟩ 8 (by kernel_rfl) (by kernel_rfl) (by kernel_rfl) (by kernel_rfl)) ?_
  intro W base args ds gs before hval0 hW hcnd _
  have hval : ∀ (j : Nat) t v, Tryz.f3.params.toList[j]? = some t → args.toList[j]? = some v → Value.okWide Tryz.prog W .any base t v := fun j t v h1 h2 => hval0 j t v (by simpa using h1) (by simpa using h2)
  have hW' := hW
  obtain ⟨p, q, hA, hV, rfl, hfz, hnd⟩ := hW
  refine (Go.Sv.walk_of mixed shapes run hA (fun b o h => hfz b o (List.mem_append_left _ h)) hval).mono fun e W' ⟨he, hg⟩ => ?_
  subst he
  exact ⟨_, rfl, Go.Sv.wy hW' rfl (fun ds' h => by
    match ds', h with
    | [d0, d1, d2, d3], _ => rfl) hg laid (fun t ht => by
      have h := List.all_eq_true.1 reads t ht
      rw [Bool.and_eq_true] at h
      exact ⟨h.1, of_decide_eq_true h.2⟩) rfl rfl⟩

theorem over1 : Tryz.pinned.checked.prog.funcNamed Rows.expandMeansRow.func = some 3 := by kernel_rfl
theorem join1 : laidOutB Tryz.pinned.checked.prog = true := by kernel_rfl
theorem join2 : (Rows.expandMeansRow.inPlace == Tryz.pinned.checked.prog.inPlace 3) = true := by kernel_rfl
theorem join3 : (Rows.expandMeansRow.unfollowed == Tryz.pinned.checked.prog.unfollowed 3) = true := by kernel_rfl
theorem join4 : (Rows.expandMeansRow.recurses == Tryz.pinned.checked.prog.recurses 3) = true := by kernel_rfl
theorem join5 : (Rows.expandMeansRow.named == Tryz.pinned.checked.prog.varsNamed 3) = true := by kernel_rfl
theorem join6 : mapsRowed Tryz.pinned.checked.prog = true := by kernel_rfl
theorem over2 : joinedFacts Tryz.pinned.checked.prog 3 Tryz.f3 Rows.expandMeansSpec Rows.expandMeansRow = true := by
  unfold joinedFacts
  rw [join1, join2, join3, join4, join5, join6]
  kernel_rfl
theorem over3 : Tryz.f3.isInstance Tryz.pinned.checked.prog Rows.expandMeansRow.origin Rows.expandMeansRow.targs := of_decide_eq_true (by kernel_rfl)
theorem over4 : Tryz.f3.isWrapper Tryz.pinned.checked.prog Rows.expandMeansRow.wrapper Rows.expandMeansRow.mainSum := by unfold Func.isWrapper; first | (rw [if_pos (by decide +kernel)]; kernel_rfl) | (rw [if_neg (by decide +kernel)]; exact ⟨rfl, rfl⟩)
theorem over : Rows.expandMeansRow.holds Tryz.pinned (OpenSpec.ofChange Rows.expandMeansSpec) :=
  OpenClaim.holds_of_wide 3 Tryz.f3 rfl rfl rfl rfl rfl rfl rfl ⟨rfl, rfl, rfl, rfl, rfl⟩ rfl rfl rfl rfl rfl over1 Tryz.func3 over2 over3 over4
    (fun os started H enc _ => lifted os started H enc)

/-- ████ THE STATEMENT ████ -/
theorem proved : Rows.ExpandMeansSaid :=
  over
#print axioms proved
end Go.Proofs.YtmnciecehjcjhaaGreat.expandMeans
