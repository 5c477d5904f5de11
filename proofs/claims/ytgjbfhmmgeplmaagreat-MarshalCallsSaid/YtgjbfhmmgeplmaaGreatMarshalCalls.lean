/-
  The statement MarshalCallsSaid: the function keysmith/keysmithlaw27.MarshalCalls returns true, whatever is handed in, and nothing of what was there before the call turns. No condition.
  How: the logic of the texts Lg.. over the evaluator of the texts Sv..; the functions' contracts stand in the texts Fn...
-/
import Derived.Test.YtgjbfhmmgeplmaaGreatRows
import Derived.Test.YtgjbfhmmgeplmaaGreatTg5
import Derived.WalkKit
import Derived.ProofKit
import Derived.OpenShut
namespace Go.Proofs.YtgjbfhmmgeplmaaGreat.marshalCalls
open Go.ChangeShapes Go.WideShapes Go.ChangeAt Go.RowKit

theorem own : ownKnob Tryz.prog.godebug = none := by kernel_rfl
theorem mixed : Tryz.prog.follows .mixedOrders = true := by kernel_rfl
theorem laid : laidOutB Tryz.prog = true := by kernel_rfl
theorem shapes : Go.Sv.yy Tryz.prog 10 Tryz.f5.params.toList = some (.cons (.sl .u) (.cons .i (.cons .str (.cons (.st (.cons (.sl (.st (.cons .i (.cons .bool (.cons .i .nil))))) (.cons (.sl (.st (.cons .i (.cons .i (.cons .i (.cons .i (.cons .i (.cons .i (.cons .u .nil))))))))) (.cons (.sl (.st (.cons .i (.cons .i (.cons .i (.cons .i (.cons .i (.cons .i (.cons .u .nil))))))))) .nil)))) (.cons (.sl (.sl .u)) (.cons .u (.cons (.sl (.sl .u)) .nil))))))) := by kernel_rfl
theorem run (y : (Go.Sv.ShL.cons (.sl .u) (.cons .i (.cons .str (.cons (.st (.cons (.sl (.st (.cons .i (.cons .bool (.cons .i .nil))))) (.cons (.sl (.st (.cons .i (.cons .i (.cons .i (.cons .i (.cons .i (.cons .i (.cons .u .nil))))))))) (.cons (.sl (.st (.cons .i (.cons .i (.cons .i (.cons .i (.cons .i (.cons .i (.cons .u .nil))))))))) .nil)))) (.cons (.sl (.sl .u)) (.cons .u (.cons (.sl (.sl .u)) .nil))))))).T) : Go.Sv.Qa Tryz.prog (.fn 5) ((Go.Sv.ShL.cons (.sl .u) (.cons .i (.cons .str (.cons (.st (.cons (.sl (.st (.cons .i (.cons .bool (.cons .i .nil))))) (.cons (.sl (.st (.cons .i (.cons .i (.cons .i (.cons .i (.cons .i (.cons .i (.cons .u .nil))))))))) (.cons (.sl (.st (.cons .i (.cons .i (.cons .i (.cons .i (.cons .i (.cons .i (.cons .u .nil))))))))) .nil)))) (.cons (.sl (.sl .u)) (.cons .u (.cons (.sl (.sl .u)) .nil))))))).args y) [] fun v _ => v = .bool true := by
  obtain ⟨⟨x0, h0⟩, ⟨x1, h1⟩, ⟨x2, h2⟩, ⟨⟨v3, hv3⟩, ⟨p3, hp3⟩, ⟨r3, hr3⟩, _⟩, ⟨x4, h4⟩, x5, ⟨x6, h6⟩, _⟩ := y
  have h := z9u x0 x1 x2 (v3.map Go.Sv.vrT) (p3.map Go.Sv.rf) (r3.map Go.Sv.rf) (x4.map (·.1)) x5 (x6.map (·.1)) h0 h1 h2 (Nat.le_trans (Nat.le_of_eq (List.length_map _)) hv3) (Nat.le_trans (Nat.le_of_eq (List.length_map _)) hp3) (Nat.le_trans (Nat.le_of_eq (List.length_map _)) hr3) (Nat.le_trans (Nat.le_of_eq (List.length_map _)) h4) (Nat.le_trans (Nat.le_of_eq (List.length_map _)) h6)
  show Go.Sv.Qa _ _ [.lst (List.flatMap (Go.Sv.Sh.enc .u) x0) x0.length 1, .i x1, .str x2, .agg [.lst (List.flatMap (Go.Sv.ShL.enc (.cons .i (.cons .bool (.cons .i .nil)))) v3) v3.length 3, .lst (List.flatMap (Go.Sv.ShL.enc (.cons .i (.cons .i (.cons .i (.cons .i (.cons .i (.cons .i (.cons .u .nil)))))))) p3) p3.length 7, .lst (List.flatMap (Go.Sv.ShL.enc (.cons .i (.cons .i (.cons .i (.cons .i (.cons .i (.cons .i (.cons .u .nil)))))))) r3) r3.length 7], .lst (List.flatMap (Go.Sv.Sh.enc (.sl .u)) x4) x4.length 1, .u x5, .lst (List.flatMap (Go.Sv.Sh.enc (.sl .u)) x6) x6.length 1] [] _
  rw [show List.flatMap (Go.Sv.Sh.enc .u) x0 = x0.map Go.Sv.LV.u from Go.Sv.Yv x0]
  rw [show List.flatMap (Go.Sv.ShL.enc (.cons .i (.cons .bool (.cons .i .nil)))) v3 = Go.Sv.Nr (v3.map Go.Sv.vrT) from Go.Sv.flat_vr v3]
  rw [show v3.length = (v3.map Go.Sv.vrT).length from (List.length_map _).symm]
  rw [show List.flatMap (Go.Sv.ShL.enc (.cons .i (.cons .i (.cons .i (.cons .i (.cons .i (.cons .i (.cons .u .nil)))))))) p3 = Go.Sv.Oi (p3.map Go.Sv.rf) from Go.Sv.flat_ko p3]
  rw [show p3.length = (p3.map Go.Sv.rf).length from (List.length_map _).symm]
  rw [show List.flatMap (Go.Sv.ShL.enc (.cons .i (.cons .i (.cons .i (.cons .i (.cons .i (.cons .i (.cons .u .nil)))))))) r3 = Go.Sv.Oi (r3.map Go.Sv.rf) from Go.Sv.flat_ko r3]
  rw [show r3.length = (r3.map Go.Sv.rf).length from (List.length_map _).symm]
  rw [show List.flatMap (Go.Sv.Sh.enc (.sl .u)) x4 = (x4.map (·.1)).map Go.Sv.LU from Go.Sv.Z5 x4]
  rw [show x4.length = (x4.map (·.1)).length from (List.length_map _).symm]
  rw [show List.flatMap (Go.Sv.Sh.enc (.sl .u)) x6 = (x6.map (·.1)).map Go.Sv.LU from Go.Sv.Z5 x6]
  rw [show x6.length = (x6.map (·.1)).length from (List.length_map _).symm]
  exact h
theorem reads : (Tryz.f5.params.toList.all fun t => Tryz.prog.readableRec t && decide (t < Tryz.prog.types.size)) = true := by kernel_rfl

set_option maxRecDepth 100000 in
theorem lifted (os : Os) (started : os.Started) (H : Type) (enc : TypeId × Value → H) :
    ReturnsInHanded {} Tryz.checked os 5 .any (Rows.marshalCallsSpec.pre6 enc Tryz.prog Tryz.f5 Rows.marshalCallsRow.domain false) (Rows.marshalCallsSpec.post enc Tryz.prog Tryz.f5 false true false false) := by
  refine returnsInHanded_of_change (C := Tryz.checked) own started (by kernel_rfl) Tryz.func5
    (ChangeSpec.witness6 (enc := enc) (C := Tryz.checked) false ⟨#[], #[.slice none 0 0, .int .i64 0, .string ⟨#[]⟩, .agg #[.slice none 0 0, .slice none 0 0, .slice none 0 0], .slice none 0 0, .int .u64 0, .slice none 0 0], []⟩ 8 (by kernel_rfl) (by kernel_rfl) (by kernel_rfl) (by kernel_rfl)) ?_
  intro W base args ds gs before hval0 hW hcnd _
  have hval : ∀ (j : Nat) t v, Tryz.f5.params.toList[j]? = some t → args.toList[j]? = some v → Value.okWide Tryz.prog W .any base t v := fun j t v h1 h2 => hval0 j t v (by simpa using h1) (by simpa using h2)
  have hW' := hW
  obtain ⟨p, q, hA, hV, rfl, hfz, hnd⟩ := hW
  refine (Go.Sv.kt mixed shapes run hA (fun b o h => hfz b o (List.mem_append_left _ h)) hval).mono fun e W' ⟨he, hg⟩ => ?_
  subst he
  exact ⟨_, rfl, Go.Sv.ax hW' rfl (fun ds' h => by
    match ds', h with
    | [d0, d1, d2, d3, d4, d5, d6], _ => rfl) hg laid (fun t ht => by
      have h := List.all_eq_true.1 reads t ht
      rw [Bool.and_eq_true] at h
      exact ⟨h.1, of_decide_eq_true h.2⟩) rfl rfl⟩

theorem over1 : Tryz.pinned.checked.prog.funcNamed Rows.marshalCallsRow.func = some 5 := by kernel_rfl
theorem join1 : laidOutB Tryz.pinned.checked.prog = true := by kernel_rfl
theorem join2 : (Rows.marshalCallsRow.inPlace == Tryz.pinned.checked.prog.inPlace 5) = true := by kernel_rfl
theorem join3 : (Rows.marshalCallsRow.unfollowed == Tryz.pinned.checked.prog.unfollowed 5) = true := by kernel_rfl
theorem join4 : (Rows.marshalCallsRow.recurses == Tryz.pinned.checked.prog.recurses 5) = true := by kernel_rfl
theorem join5 : (Rows.marshalCallsRow.named == Tryz.pinned.checked.prog.varsNamed 5) = true := by kernel_rfl
theorem join6 : mapsRowed Tryz.pinned.checked.prog = true := by kernel_rfl
theorem over2 : joinedFacts Tryz.pinned.checked.prog 5 Tryz.f5 Rows.marshalCallsSpec Rows.marshalCallsRow = true := by
  unfold joinedFacts
  rw [join1, join2, join3, join4, join5, join6]
  kernel_rfl
theorem over3 : Tryz.f5.isInstance Tryz.pinned.checked.prog Rows.marshalCallsRow.origin Rows.marshalCallsRow.targs := of_decide_eq_true (by kernel_rfl)
theorem over4 : Tryz.f5.isWrapper Tryz.pinned.checked.prog Rows.marshalCallsRow.wrapper Rows.marshalCallsRow.mainSum := by unfold Func.isWrapper; first | (rw [if_pos (by decide +kernel)]; kernel_rfl) | (rw [if_neg (by decide +kernel)]; exact ⟨rfl, rfl⟩)
theorem over : Rows.marshalCallsRow.holds Tryz.pinned (OpenSpec.ofChange Rows.marshalCallsSpec) :=
  OpenClaim.holds_of_wide 5 Tryz.f5 rfl rfl rfl rfl rfl rfl rfl ⟨rfl, rfl, rfl, rfl, rfl⟩ rfl rfl rfl rfl rfl over1 Tryz.func5 over2 over3 over4
    (fun os started H enc _ => lifted os started H enc)

/-- ████ THE STATEMENT ████ -/
theorem proved : Rows.MarshalCallsSaid :=
  over
#print axioms proved
end Go.Proofs.YtgjbfhmmgeplmaaGreat.marshalCalls
