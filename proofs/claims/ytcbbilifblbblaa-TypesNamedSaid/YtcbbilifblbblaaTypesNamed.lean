/-
  The statement TypesNamedSaid: the function keysmith/keysmithlaw18.TypesNamed returns true, whatever is handed in, and nothing of what was there before the call turns. No condition.
  How: the logic of the texts Lg.. over the evaluator of the texts Sv..; the functions' contracts stand in the texts Fn...
-/
import Derived.Test.YtcbbilifblbblaaRows
import Derived.Test.YtcbbilifblbblaaFnTs
import Derived.WalkKit
import Derived.ProofKit
import Derived.OpenShut
namespace Go.Proofs.Ytcbbilifblbblaa.typesNamed
open Go.ChangeShapes Go.WideShapes Go.ChangeAt Go.RowKit

theorem own : ownKnob Try.prog.godebug = none := by kernel_rfl
theorem mixed : Try.prog.follows .mixedOrders = true := by kernel_rfl
theorem laid : laidOutB Try.prog = true := by kernel_rfl
theorem pars : Try.f4.params.toList = [22, 3] := by kernel_rfl
theorem run0 (y : List Go.Sv.LV) (hy : Go.Sv.ArgsV Try.prog [22, 3] y) : Go.Sv.CallL Try.prog (.fn 4) y [] fun v _ => v = .bool true := by
  rcases y with _ | ⟨a, _ | ⟨b, _ | ⟨c, y⟩⟩⟩
  · exact hy.elim
  · exact hy.2.elim
  · obtain ⟨l, hl, rfl⟩ := Go.Sv.argV_prcs src18 hy.1
    obtain ⟨i, _, rfl⟩ := Go.Sv.argV_i src18.i hy.2.1
    exact law18_TypesNamed_run l hl i
  · exact hy.2.2.elim
theorem run (y : List Go.Sv.LV) (hy : Go.Sv.ArgsV Try.prog Try.f4.params.toList y) : Go.Sv.CallL Try.prog (.fn 4) y [] fun v _ => v = .bool true :=
  run0 y (Eq.mp (congrArg (fun ts => Go.Sv.ArgsV Try.prog ts y) pars) hy)
theorem held : ∀ t ∈ Try.f4.params.toList, t ∈ set18 := by
  rw [pars]
  decide
theorem reads : (Try.f4.params.toList.all fun t => Try.prog.readableRec t && decide (t < Try.prog.types.size)) = true := by kernel_rfl

set_option maxRecDepth 100000 in
theorem lifted (os : Os) (started : os.Started) (H : Type) (enc : TypeId × Value → H) :
    ReturnsInHanded {} Try.checked os 4 .any (Rows.typesNamedSpec.pre6 enc Try.prog Try.f4 Rows.typesNamedRow.domain false) (Rows.typesNamedSpec.post enc Try.prog Try.f4 false true false false) := by
  refine returnsInHanded_of_change (C := Try.checked) own started (by kernel_rfl) Try.func4
    (ChangeSpec.witness6 (enc := enc) (C := Try.checked) false ⟨#[], #[.slice none 0 0, .int .i64 0], []⟩ 8 (by kernel_rfl) (by kernel_rfl) (by kernel_rfl) (by kernel_rfl)) ?_
  intro W base args ds gs before hval0 hW hcnd _
  have hval : ∀ (j : Nat) t v, Try.f4.params.toList[j]? = some t → args.toList[j]? = some v → Value.okWide Try.prog W .any base t v := fun j t v h1 h2 => hval0 j t v (by simpa using h1) (by simpa using h2)
  have hW' := hW
  obtain ⟨p, q, hA, hV, rfl, hfz, hnd⟩ := hW
  refine (Go.Sv.walk_rec mixed set18_ok held run hA (fun b o h => hfz b o (List.mem_append_left _ h)) hval).mono fun e W' ⟨he, hg⟩ => ?_
  subst he
  exact ⟨_, rfl, Go.Sv.law_post hW' rfl (fun ds' h => by
    match ds', h with
    | [d0, d1], _ => rfl) hg laid (fun t ht => by
      have h := List.all_eq_true.1 reads t ht
      rw [Bool.and_eq_true] at h
      exact ⟨h.1, of_decide_eq_true h.2⟩) rfl rfl⟩

theorem over1 : Try.pinned.checked.prog.funcNamed Rows.typesNamedRow.func = some 4 := by kernel_rfl
theorem join1 : laidOutB Try.pinned.checked.prog = true := by kernel_rfl
theorem join2 : (Rows.typesNamedRow.inPlace == Try.pinned.checked.prog.inPlace 4) = true := by kernel_rfl
theorem join3 : (Rows.typesNamedRow.unfollowed == Try.pinned.checked.prog.unfollowed 4) = true := by kernel_rfl
theorem join4 : (Rows.typesNamedRow.recurses == Try.pinned.checked.prog.recurses 4) = true := by kernel_rfl
theorem join5 : (Rows.typesNamedRow.named == Try.pinned.checked.prog.varsNamed 4) = true := by kernel_rfl
theorem join6 : mapsRowed Try.pinned.checked.prog = true := by kernel_rfl
theorem over2 : joinedFacts Try.pinned.checked.prog 4 Try.f4 Rows.typesNamedSpec Rows.typesNamedRow = true := by
  unfold joinedFacts
  rw [join1, join2, join3, join4, join5, join6]
  kernel_rfl
theorem over3 : Try.f4.isInstance Try.pinned.checked.prog Rows.typesNamedRow.origin Rows.typesNamedRow.targs := of_decide_eq_true (by kernel_rfl)
theorem over4 : Try.f4.isWrapper Try.pinned.checked.prog Rows.typesNamedRow.wrapper Rows.typesNamedRow.mainSum := by unfold Func.isWrapper; first | (rw [if_pos (by decide +kernel)]; kernel_rfl) | (rw [if_neg (by decide +kernel)]; exact ⟨rfl, rfl⟩)
theorem over : Rows.typesNamedRow.holds Try.pinned (OpenSpec.ofChange Rows.typesNamedSpec) :=
  OpenClaim.holds_of_wide 4 Try.f4 rfl rfl rfl rfl rfl rfl rfl ⟨rfl, rfl, rfl, rfl, rfl⟩ rfl rfl rfl rfl rfl over1 Try.func4 over2 over3 over4
    (fun os started H enc _ => lifted os started H enc)

/-- ████ THE STATEMENT ████ -/
theorem proved : Rows.TypesNamedSaid :=
  over
#print axioms proved
end Go.Proofs.Ytcbbilifblbblaa.typesNamed
