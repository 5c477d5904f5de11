/-
  The statement MontgomeryNamesSaid: the function keysmith/keysmithlaw23.MontgomeryNames, which takes no argument, returns true, and of what was there before the call nothing turns. No condition.
  How: runs of a proved evaluator (the texts YtodjkjimaheggaaGreatSv..), which the kernel runs: calls whose own runs are done are taken as done. The frame of the proof is the one that the skeleton of the seat writes.
-/
import Derived.Test.YtodjkjimaheggaaGreatRows
import Derived.Test.YtodjkjimaheggaaGreatSvFact
import Derived.WalkKit
import Derived.ProofKit
import Derived.OpenShut
namespace Go.Proofs.YtodjkjimaheggaaGreat.montgomeryNames
open Go.ChangeShapes Go.WideShapes Go.ChangeAt Go.RowKit

theorem own : ownKnob Tryz.prog.godebug = none := by kernel_rfl

/-! ### The walk -/
theorem mixed : Tryz.prog.follows .mixedOrders = true := by kernel_rfl
noncomputable def facts0 : List Go.Sv.Fact := []
theorem facts0_ok : ∀ F ∈ facts0, F.Right Tryz.prog := fun _ h => by cases h
noncomputable def fact0 : Go.Sv.Fact := ⟨13, [], .bool true⟩
theorem fact0_run : Go.Sv.runF Tryz.prog (Go.Sv.factO facts0) 10000 fact0 = true := by kernel_rfl
noncomputable def facts1 : List Go.Sv.Fact := fact0 :: facts0
theorem facts1_ok : ∀ F ∈ facts1, F.Right Tryz.prog := fun F h => by
  cases h with
  | head => exact Go.Sv.fact_of_run mixed (Go.Sv.factO_sound facts0_ok) fact0_run
  | tail _ h => exact facts0_ok F h
theorem ran : Go.Sv.runA Tryz.prog (Go.Sv.factO facts1) 10000 6 = true := by kernel_rfl
theorem walk (w : World) : Calls Tryz.prog 6 #[] w fun e w' => e = .returned (.bool true) ∧ Below w.heap.size w w' := Go.Sv.runA_calls mixed (Go.Sv.factO_sound facts1_ok) ran w

/-! ### THE ROW's STEP: WRITTEN OUT: LEAVE IT -/
set_option maxRecDepth 100000 in
theorem lifted (os : Os) (started : os.Started) (H : Type) (enc : TypeId × Value → H) :
    ReturnsInHanded {} Tryz.checked os 6 .any (Rows.montgomeryNamesSpec.pre6 enc Tryz.prog Tryz.f6 Rows.montgomeryNamesRow.domain false) (Rows.montgomeryNamesSpec.post enc Tryz.prog Tryz.f6 false true false false) := by
  refine returnsInHanded_of_change (C := Tryz.checked) own started (by kernel_rfl) Tryz.func6
    (ChangeSpec.witness6 (enc := enc) (C := Tryz.checked) false ⟨#[], #[], []⟩ 8 (by kernel_rfl) (by kernel_rfl) (by kernel_rfl) (by kernel_rfl)) ?_
  intro W base args ds gs before hval0 hW hcnd _
  have hval : ∀ (j : Nat) t v, Tryz.f6.params[j]? = some t → args[j]? = some v → Value.okWide Tryz.prog W .any base t v := hval0
  have hW' := hW
  obtain ⟨p, q, hA0, hV, rfl, hfz, hnd⟩ := hW
  have hA : DataW.TrodAll enc Tryz.prog W 0 (fun _ => true) true Tryz.f6.params.toList args.toList ds p := hA0
  rw [Tryz.params6] at hA hval
  obtain ⟨rfl, rfl, rfl⟩ := trodAll_none hA
  obtain ⟨rfl, rfl⟩ := trodVars_none hV
  clear hA0 hval0
  simp only [List.append_nil] at hW'
  refine (walk  W).mono fun e W' ⟨he, hg⟩ => ?_
  subst he
  exact ⟨_, rfl, Go.Sv.post_below (pa := []) (pv := []) hW' (fun _ _ _ => (trodAll_cons_mk (shut_bool Tryz.underlying4 _) trodAll_mk0)) (fun sp _ => rfl) (fun _ _ => rfl) rfl
    hg (ok_one (by kernel_rfl) rfl (okWide_bool_mk Tryz.underlying4 _))⟩

theorem over : Rows.montgomeryNamesRow.holds Tryz.pinned (OpenSpec.ofChange Rows.montgomeryNamesSpec) :=
  OpenClaim.holds_of_wide 6 Tryz.f6 rfl rfl rfl rfl rfl rfl rfl ⟨rfl, rfl, rfl, rfl, rfl⟩ rfl rfl rfl rfl rfl (by kernel_rfl) Tryz.func6 (by kernel_rfl)
    (of_decide_eq_true (by kernel_rfl)) (by unfold Func.isWrapper; first | (rw [if_pos (by decide +kernel)]; kernel_rfl) | (rw [if_neg (by decide +kernel)]; exact ⟨rfl, rfl⟩))
    (fun os started H enc _ => lifted os started H enc)

/-- ████ THE STATEMENT ████ -/
theorem proved : Rows.MontgomeryNamesSaid :=
  over
#print axioms proved
end Go.Proofs.YtodjkjimaheggaaGreat.montgomeryNames
