/-
  The statement ExpandCallsSaid: the function keysmith/keysmithlaw22.ExpandCalls returns true, whatever is handed in, and nothing of what was there before the call turns. No condition.
  How: the logic of the texts Lg.. over the evaluator of the texts Sv..; the functions' contracts stand in the texts Fn...
-/
import Derived.Test.YtocgdaojgjnfcaaGreatRows
import Derived.Test.YtocgdaojgjnfcaaGreatFnX3
import Derived.WalkKit
import Derived.ProofKit
import Derived.OpenShut
namespace Go.Proofs.YtocgdaojgjnfcaaGreat.expandCalls
open Go.ChangeShapes Go.WideShapes Go.ChangeAt Go.RowKit

theorem own : ownKnob Tryz.prog.godebug = none := by kernel_rfl
theorem mixed : Tryz.prog.follows .mixedOrders = true := by kernel_rfl
theorem laid : laidOutB Tryz.prog = true := by kernel_rfl
theorem shapes : Go.Sv.shsOf Tryz.prog 10 Tryz.f4.params.toList = some (.cons (.sl (.st (.cons .i (.cons .bool (.cons .i .nil))))) (.cons (.st (.cons (.sl (.st (.cons .i (.cons .i (.cons .bool .nil))))) (.cons (.sl (.st (.cons .i (.cons .i (.cons .i .nil))))) (.cons (.st (.cons (.st (.cons .i (.cons .i (.cons .i .nil)))) (.cons (.st (.cons .i (.cons .i (.cons .i .nil)))) .nil))) .nil)))) (.cons (.st (.cons .i (.cons .i (.cons .i (.cons .i (.cons .i (.cons .i (.cons .u .nil)))))))) .nil))) := by kernel_rfl
theorem run (y : (Go.Sv.ShL.cons (.sl (.st (.cons .i (.cons .bool (.cons .i .nil))))) (.cons (.st (.cons (.sl (.st (.cons .i (.cons .i (.cons .bool .nil))))) (.cons (.sl (.st (.cons .i (.cons .i (.cons .i .nil))))) (.cons (.st (.cons (.st (.cons .i (.cons .i (.cons .i .nil)))) (.cons (.st (.cons .i (.cons .i (.cons .i .nil)))) .nil))) .nil)))) (.cons (.st (.cons .i (.cons .i (.cons .i (.cons .i (.cons .i (.cons .i (.cons .u .nil)))))))) .nil))).T) : Go.Sv.CallL Tryz.prog (.fn 4) ((Go.Sv.ShL.cons (.sl (.st (.cons .i (.cons .bool (.cons .i .nil))))) (.cons (.st (.cons (.sl (.st (.cons .i (.cons .i (.cons .bool .nil))))) (.cons (.sl (.st (.cons .i (.cons .i (.cons .i .nil))))) (.cons (.st (.cons (.st (.cons .i (.cons .i (.cons .i .nil)))) (.cons (.st (.cons .i (.cons .i (.cons .i .nil)))) .nil))) .nil)))) (.cons (.st (.cons .i (.cons .i (.cons .i (.cons .i (.cons .i (.cons .i (.cons .u .nil)))))))) .nil))).args y) [] fun v _ => v = .bool true := by
  obtain ⟨⟨x0, h0⟩, ⟨⟨b1, hb1⟩, ⟨p1, hp1⟩, ⟨⟨⟨u1_0, _⟩, ⟨u1_1, _⟩, ⟨u1_2, _⟩, _⟩, ⟨⟨w1_0, _⟩, ⟨w1_1, _⟩, ⟨w1_2, _⟩, _⟩, _⟩, _⟩, ⟨⟨o2_0, _⟩, ⟨o2_1, _⟩, ⟨o2_2, _⟩, ⟨o2_3, _⟩, ⟨o2_4, _⟩, ⟨o2_5, _⟩, o2_6, _⟩, _⟩ := y
  have h := law22_ExpandCalls_run (x0.map Go.Sv.vrT) (b1.map Go.Sv.bfT) (p1.map Go.Sv.pcT) ⟨u1_0, u1_1, u1_2⟩ ⟨w1_0, w1_1, w1_2⟩ ⟨o2_0, o2_1, o2_2, o2_3, o2_4, o2_5, o2_6⟩ (Nat.le_trans (Nat.le_of_eq (List.length_map _)) h0) (Nat.le_trans (Nat.le_of_eq (List.length_map _)) hb1)
  show Go.Sv.CallL _ _ [.lst (List.flatMap (Go.Sv.ShL.enc (.cons .i (.cons .bool (.cons .i .nil)))) x0) x0.length 3, .agg [.lst (List.flatMap (Go.Sv.ShL.enc (.cons .i (.cons .i (.cons .bool .nil)))) b1) b1.length 3, .lst (List.flatMap (Go.Sv.ShL.enc (.cons .i (.cons .i (.cons .i .nil)))) p1) p1.length 3, .i u1_0, .i u1_1, .i u1_2, .i w1_0, .i w1_1, .i w1_2], .agg [.i o2_0, .i o2_1, .i o2_2, .i o2_3, .i o2_4, .i o2_5, .u o2_6]] [] _
  rw [show List.flatMap (Go.Sv.ShL.enc (.cons .i (.cons .bool (.cons .i .nil)))) x0 = Go.Sv.vsC (x0.map Go.Sv.vrT) from Go.Sv.flat_vr x0]
  rw [show x0.length = (x0.map Go.Sv.vrT).length from (List.length_map _).symm]
  rw [show List.flatMap (Go.Sv.ShL.enc (.cons .i (.cons .i (.cons .bool .nil)))) b1 = Go.Sv.bfC (b1.map Go.Sv.bfT) from Go.Sv.flat_bf b1]
  rw [show b1.length = (b1.map Go.Sv.bfT).length from (List.length_map _).symm]
  rw [show List.flatMap (Go.Sv.ShL.enc (.cons .i (.cons .i (.cons .i .nil)))) p1 = Go.Sv.pcC (p1.map Go.Sv.pcT) from Go.Sv.flat_pc p1]
  rw [show p1.length = (p1.map Go.Sv.pcT).length from (List.length_map _).symm]
  exact h
theorem reads : (Tryz.f4.params.toList.all fun t => Tryz.prog.readableRec t && decide (t < Tryz.prog.types.size)) = true := by kernel_rfl

set_option maxRecDepth 100000 in
theorem lifted (os : Os) (started : os.Started) (H : Type) (enc : TypeId × Value → H) :
    ReturnsInHanded {} Tryz.checked os 4 .any (Rows.expandCallsSpec.pre6 enc Tryz.prog Tryz.f4 Rows.expandCallsRow.domain false) (Rows.expandCallsSpec.post enc Tryz.prog Tryz.f4 false true false false) := by
  refine returnsInHanded_of_change (C := Tryz.checked) own started (by kernel_rfl) Tryz.func4
    (ChangeSpec.witness6 (enc := enc) (C := Tryz.checked) false ⟨#[], #[.slice none 0 0, .agg #[.slice none 0 0, .slice none 0 0, .int .i64 0, .int .i64 0, .int .i64 0, .int .i64 0, .int .i64 0, .int .i64 0], .agg #[.int .i64 0, .int .i64 0, .int .i64 0, .int .i64 0, .int .i64 0, .int .i64 0, .int .u64 0]], []⟩ 8 (by kernel_rfl) (by kernel_rfl) (by kernel_rfl) (by kernel_rfl)) ?_
  intro W base args ds gs before hval0 hW hcnd _
  have hval : ∀ (j : Nat) t v, Tryz.f4.params.toList[j]? = some t → args.toList[j]? = some v → Value.okWide Tryz.prog W .any base t v := fun j t v h1 h2 => hval0 j t v (by simpa using h1) (by simpa using h2)
  have hW' := hW
  obtain ⟨p, q, hA, hV, rfl, hfz, hnd⟩ := hW
  refine (Go.Sv.walk_of mixed shapes run hA (fun b o h => hfz b o (List.mem_append_left _ h)) hval).mono fun e W' ⟨he, hg⟩ => ?_
  subst he
  exact ⟨_, rfl, Go.Sv.law_post hW' rfl (fun ds' h => by
    match ds', h with
    | [d0, d1, d2], _ => rfl) hg laid (fun t ht => by
      have h := List.all_eq_true.1 reads t ht
      rw [Bool.and_eq_true] at h
      exact ⟨h.1, of_decide_eq_true h.2⟩) rfl rfl⟩

theorem over1 : Tryz.pinned.checked.prog.funcNamed Rows.expandCallsRow.func = some 4 := by kernel_rfl
theorem join1 : laidOutB Tryz.pinned.checked.prog = true := by kernel_rfl
theorem join2 : (Rows.expandCallsRow.inPlace == Tryz.pinned.checked.prog.inPlace 4) = true := by kernel_rfl
theorem join3 : (Rows.expandCallsRow.unfollowed == Tryz.pinned.checked.prog.unfollowed 4) = true := by kernel_rfl
theorem join4 : (Rows.expandCallsRow.recurses == Tryz.pinned.checked.prog.recurses 4) = true := by kernel_rfl
theorem join5 : (Rows.expandCallsRow.named == Tryz.pinned.checked.prog.varsNamed 4) = true := by kernel_rfl
theorem join6 : mapsRowed Tryz.pinned.checked.prog = true := by kernel_rfl
theorem over2 : joinedFacts Tryz.pinned.checked.prog 4 Tryz.f4 Rows.expandCallsSpec Rows.expandCallsRow = true := by
  unfold joinedFacts
  rw [join1, join2, join3, join4, join5, join6]
  kernel_rfl
theorem over3 : Tryz.f4.isInstance Tryz.pinned.checked.prog Rows.expandCallsRow.origin Rows.expandCallsRow.targs := of_decide_eq_true (by kernel_rfl)
theorem over4 : Tryz.f4.isWrapper Tryz.pinned.checked.prog Rows.expandCallsRow.wrapper Rows.expandCallsRow.mainSum := by unfold Func.isWrapper; first | (rw [if_pos (by decide +kernel)]; kernel_rfl) | (rw [if_neg (by decide +kernel)]; exact ⟨rfl, rfl⟩)
theorem over : Rows.expandCallsRow.holds Tryz.pinned (OpenSpec.ofChange Rows.expandCallsSpec) :=
  OpenClaim.holds_of_wide 4 Tryz.f4 rfl rfl rfl rfl rfl rfl rfl ⟨rfl, rfl, rfl, rfl, rfl⟩ rfl rfl rfl rfl rfl over1 Tryz.func4 over2 over3 over4
    (fun os started H enc _ => lifted os started H enc)

/-- ████ THE STATEMENT ████ -/
theorem proved : Rows.ExpandCallsSaid :=
  over
#print axioms proved
end Go.Proofs.YtocgdaojgjnfcaaGreat.expandCalls
