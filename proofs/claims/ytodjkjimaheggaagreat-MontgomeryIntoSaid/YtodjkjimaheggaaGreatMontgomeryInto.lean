/-
  The statement MontgomeryIntoSaid: the function keysmith/keysmithlaw23.MontgomeryInto returns true, whatever is handed in, and nothing of what was there before the call turns. No condition.
  How: the logic of the texts Lg.. over the evaluator of the texts Sv..; the functions' contracts stand in the texts Fn...
-/
import Derived.Test.YtodjkjimaheggaaGreatRows
import Derived.Test.YtodjkjimaheggaaGreatFnMp
import Derived.WalkKit
import Derived.ProofKit
import Derived.OpenShut
namespace Go.Proofs.YtodjkjimaheggaaGreat.montgomeryInto
open Go.ChangeShapes Go.WideShapes Go.ChangeAt Go.RowKit

theorem own : ownKnob Tryz.prog.godebug = none := by kernel_rfl
theorem mixed : Tryz.prog.follows .mixedOrders = true := by kernel_rfl
theorem laid : laidOutB Tryz.prog = true := by kernel_rfl
theorem shapes : Go.Sv.shsOf Tryz.prog 10 Tryz.f4.params.toList = some (.cons .i (.cons (.sl .u) (.cons (.sl .u) (.cons (.sl .u) (.cons .i (.cons .i (.cons .i (.cons .i .nil)))))))) := by kernel_rfl
theorem run (y : (Go.Sv.ShL.cons .i (.cons (.sl .u) (.cons (.sl .u) (.cons (.sl .u) (.cons .i (.cons .i (.cons .i (.cons .i .nil)))))))).T) : Go.Sv.CallL Tryz.prog (.fn 4) ((Go.Sv.ShL.cons .i (.cons (.sl .u) (.cons (.sl .u) (.cons (.sl .u) (.cons .i (.cons .i (.cons .i (.cons .i .nil)))))))).args y) [] fun v _ => v = .bool true := by
  obtain ⟨⟨x0, h0⟩, ⟨x1, h1⟩, ⟨x2, h2⟩, ⟨x3, h3⟩, ⟨x4, h4⟩, ⟨x5, h5⟩, ⟨x6, h6⟩, ⟨x7, h7⟩, _⟩ := y
  have h := law23_MontgomeryInto_run x0 x1 x2 x3 x4 x5 x6 x7
  show Go.Sv.CallL _ _ [.i x0, .lst (List.flatMap (Go.Sv.Sh.enc .u) x1) x1.length 1, .lst (List.flatMap (Go.Sv.Sh.enc .u) x2) x2.length 1, .lst (List.flatMap (Go.Sv.Sh.enc .u) x3) x3.length 1, .i x4, .i x5, .i x6, .i x7] [] _
  rw [show List.flatMap (Go.Sv.Sh.enc .u) x1 = x1.map Go.Sv.LV.u from Go.Sv.flat_u x1]
  rw [show List.flatMap (Go.Sv.Sh.enc .u) x2 = x2.map Go.Sv.LV.u from Go.Sv.flat_u x2]
  rw [show List.flatMap (Go.Sv.Sh.enc .u) x3 = x3.map Go.Sv.LV.u from Go.Sv.flat_u x3]
  exact h
theorem reads : (Tryz.f4.params.toList.all fun t => Tryz.prog.readableRec t && decide (t < Tryz.prog.types.size)) = true := by kernel_rfl

set_option maxRecDepth 100000 in
theorem lifted (os : Os) (started : os.Started) (H : Type) (enc : TypeId × Value → H) :
    ReturnsInHanded {} Tryz.checked os 4 .any (Rows.montgomeryIntoSpec.pre6 enc Tryz.prog Tryz.f4 Rows.montgomeryIntoRow.domain false) (Rows.montgomeryIntoSpec.post enc Tryz.prog Tryz.f4 false true false false) := by
  refine returnsInHanded_of_change (C := Tryz.checked) own started (by kernel_rfl) Tryz.func4
    (ChangeSpec.witness6 (enc := enc) (C := Tryz.checked) false ⟨#[], #[.int .i64 0, .slice none 0 0, .slice none 0 0, .slice none 0 0, .int .i64 0, .int .i64 0, .int .i64 0, .int .i64 0], []⟩ 8 (by kernel_rfl) (by kernel_rfl) (by kernel_rfl) (by kernel_rfl)) ?_
  intro W base args ds gs before hval0 hW hcnd _
  have hval : ∀ (j : Nat) t v, Tryz.f4.params.toList[j]? = some t → args.toList[j]? = some v → Value.okWide Tryz.prog W .any base t v := fun j t v h1 h2 => hval0 j t v (by simpa using h1) (by simpa using h2)
  have hW' := hW
  obtain ⟨p, q, hA, hV, rfl, hfz, hnd⟩ := hW
  refine (Go.Sv.walk_of mixed shapes run hA (fun b o h => hfz b o (List.mem_append_left _ h)) hval).mono fun e W' ⟨he, hg⟩ => ?_
  subst he
  exact ⟨_, rfl, Go.Sv.law_post hW' rfl (fun ds' h => by
    match ds', h with
    | [d0, d1, d2, d3, d4, d5, d6, d7], _ => rfl) hg laid (fun t ht => by
      have h := List.all_eq_true.1 reads t ht
      rw [Bool.and_eq_true] at h
      exact ⟨h.1, of_decide_eq_true h.2⟩) rfl rfl⟩

theorem over : Rows.montgomeryIntoRow.holds Tryz.pinned (OpenSpec.ofChange Rows.montgomeryIntoSpec) :=
  OpenClaim.holds_of_wide 4 Tryz.f4 rfl rfl rfl rfl rfl rfl rfl ⟨rfl, rfl, rfl, rfl, rfl⟩ rfl rfl rfl rfl rfl (by kernel_rfl) Tryz.func4 (by kernel_rfl)
    (of_decide_eq_true (by kernel_rfl)) (by unfold Func.isWrapper; first | (rw [if_pos (by decide +kernel)]; kernel_rfl) | (rw [if_neg (by decide +kernel)]; exact ⟨rfl, rfl⟩))
    (fun os started H enc _ => lifted os started H enc)

/-- ████ THE STATEMENT ████ -/
theorem proved : Rows.MontgomeryIntoSaid :=
  over
#print axioms proved
end Go.Proofs.YtodjkjimaheggaaGreat.montgomeryInto
