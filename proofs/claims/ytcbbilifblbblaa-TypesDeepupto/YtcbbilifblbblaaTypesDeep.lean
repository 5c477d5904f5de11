/-
  The statement TypesDeepUptoSaid: the function keysmith/keysmithlaw18.TypesDeep returns true, whatever is handed in of bulk at most 1048576, and nothing of what was there before the call turns. Condition: the bulk.
  How: the logic of the texts Lg.. over the evaluator of the texts Sv..; the functions' contracts stand in the texts Fn...
-/
import Derived.Test.YtcbbilifblbblaaRows
import Derived.Test.YtcbbilifblbblaaFnTw
import Derived.WalkKit
import Derived.ProofKit
import Derived.OpenShut
import Derived.JoinedCond
namespace Go.Proofs.Ytcbbilifblbblaa.typesDeep
open Go.ChangeShapes Go.WideShapes Go.ChangeAt Go.RowKit

theorem own : ownKnob Try.prog.godebug = none := by kernel_rfl
theorem mixed : Try.prog.follows .mixedOrders = true := by kernel_rfl
theorem laid : laidOutB Try.prog = true := by kernel_rfl
theorem pars : Try.f3.params.toList = [22] := by kernel_rfl
theorem bulkOk (H : Type) : Go.Sv.BkOk (Rows.uptoBulk (H := H)) Rows.uptoBulkAll where
  lit l := by cases l <;> simp [Rows.uptoBulk]
  nil := by simp [Rows.uptoBulk]
  slice e s := by simp only [Rows.uptoBulk]; omega
  agg p := by simp [Rows.uptoBulk]
  cons d r := by simp [Rows.uptoBulkAll]
  none := by simp [Rows.uptoBulkAll]
theorem run0 (y : List Go.Sv.LV) (hy : Go.Sv.ArgsV Try.prog [22] y) (hz : Go.Sv.szVs y ≤ 1048576) : Go.Sv.CallL Try.prog (.fn 3) y [] fun v _ => v = .bool true := by
  rcases y with _ | ⟨a, _ | ⟨b, y⟩⟩
  · exact hy.elim
  · obtain ⟨l, hl, rfl⟩ := Go.Sv.argV_prcs src18 hy.1
    simp only [Go.Sv.szVs, Go.Sv.szV] at hz
    exact law18_TypesDeep_run l (Go.Sv.src_of hl (by omega))
  · exact hy.2.elim
theorem run (y : List Go.Sv.LV) (hy : Go.Sv.ArgsV Try.prog Try.f3.params.toList y) (hz : Go.Sv.szVs y ≤ 1048576) : Go.Sv.CallL Try.prog (.fn 3) y [] fun v _ => v = .bool true :=
  run0 y (Eq.mp (congrArg (fun ts => Go.Sv.ArgsV Try.prog ts y) pars) hy) hz
theorem held : ∀ t ∈ Try.f3.params.toList, t ∈ set18 := by
  rw [pars]
  decide
theorem reads : (Try.f3.params.toList.all fun t => Try.prog.readableRec t && decide (t < Try.prog.types.size)) = true := by kernel_rfl

set_option maxRecDepth 100000 in
theorem lifted (os : Os) (started : os.Started) (H : Type) (enc : TypeId × Value → H) (F : Stop.Interp) :
    ReturnsInHanded {} Try.checked os 3 .any ((Rows.OpenSpec.upto Rows.typesDeepSpec).pre6 enc Try.prog Try.f3 Rows.typesDeepUptoRow.domain false) (((Rows.OpenSpec.upto Rows.typesDeepSpec).at F).post enc Try.prog Try.f3 false true false false) := by
  refine returnsInHanded_of_cond (C := Try.checked) (s := Rows.OpenSpec.upto Rows.typesDeepSpec) (k := Rows.uptoSmall) rfl own started (by kernel_rfl) Try.func3
    (OpenSpec.witness (enc := enc) (C := Try.checked) (s := Rows.OpenSpec.upto Rows.typesDeepSpec) (k := Rows.uptoSmall) rfl false ⟨#[], #[.slice none 0 0], []⟩ 8 (by kernel_rfl) (by kernel_rfl) (by kernel_rfl)
      (x := ([.nil], [], [])) (by kernel_rfl) rfl (by kernel_rfl)) ?_
  intro W base args ds gs before hval0 hW hcnd hk _
  have hval : ∀ (j : Nat) t v, Try.f3.params.toList[j]? = some t → args.toList[j]? = some v → Value.okWide Try.prog W .any base t v := fun j t v h1 h2 => hval0 j t v (by simpa using h1) (by simpa using h2)
  have hW' := hW
  obtain ⟨p, q, hA, hV, rfl, hfz, hnd⟩ := hW
  have hb : Rows.uptoBulkAll ds ≤ 1048576 := by
    have h1 : Rows.uptoBulkAll (ds ++ gs) ≤ 1048576 := of_decide_eq_true hk
    have h2 := (bulkOk H).app ds gs
    omega
  refine (Go.Sv.walk_rec (bulkOk H) mixed set18_ok held (fun y hy hz => run y hy (Nat.le_trans hz hb)) hA (fun b o h => hfz b o (List.mem_append_left _ h)) hval).mono fun e W' ⟨he, hg⟩ => ?_
  subst he
  exact ⟨_, rfl, Go.Sv.law_post hW' rfl (fun ds' h => by
    match ds', h with
    | [d0], _ => rfl) hg laid (fun t ht => by
      have h := List.all_eq_true.1 reads t ht
      rw [Bool.and_eq_true] at h
      exact ⟨h.1, of_decide_eq_true h.2⟩) rfl rfl⟩

theorem over1 : Try.pinned.checked.prog.funcNamed Rows.typesDeepUptoRow.func = some 3 := by kernel_rfl
theorem join1 : laidOutB Try.pinned.checked.prog = true := by kernel_rfl
theorem join2 : (Rows.typesDeepUptoRow.inPlace == Try.pinned.checked.prog.inPlace 3) = true := by kernel_rfl
theorem join3 : (Rows.typesDeepUptoRow.unfollowed == Try.pinned.checked.prog.unfollowed 3) = true := by kernel_rfl
theorem join4 : (Rows.typesDeepUptoRow.recurses == Try.pinned.checked.prog.recurses 3) = true := by kernel_rfl
theorem join5 : (Rows.typesDeepUptoRow.named == Try.pinned.checked.prog.varsNamed 3) = true := by kernel_rfl
theorem join6 : mapsRowed Try.pinned.checked.prog = true := by kernel_rfl
theorem over2 : joinedFacts Try.pinned.checked.prog 3 Try.f3 (Rows.OpenSpec.upto Rows.typesDeepSpec).bare Rows.typesDeepUptoRow = true := by
  unfold joinedFacts
  rw [join1, join2, join3, join4, join5, join6]
  kernel_rfl
theorem over3 : Try.f3.isInstance Try.pinned.checked.prog Rows.typesDeepUptoRow.origin Rows.typesDeepUptoRow.targs := of_decide_eq_true (by kernel_rfl)
theorem over4 : Try.f3.isWrapper Try.pinned.checked.prog Rows.typesDeepUptoRow.wrapper Rows.typesDeepUptoRow.mainSum := by unfold Func.isWrapper; first | (rw [if_pos (by decide +kernel)]; kernel_rfl) | (rw [if_neg (by decide +kernel)]; exact ⟨rfl, rfl⟩)
theorem over : Rows.typesDeepUptoRow.holds Try.pinned (Rows.OpenSpec.upto Rows.typesDeepSpec) :=
  OpenClaim.holds_of_cond 3 Try.f3 rfl rfl rfl rfl rfl rfl rfl ⟨rfl, rfl, rfl, rfl, rfl⟩ rfl rfl rfl rfl rfl over1 Try.func3 over2 over3 over4
    (fun os started H enc _ F => lifted os started H enc F)

/-- ████ THE STATEMENT ████ -/
theorem proved : Rows.TypesDeepUptoSaid :=
  over
#print axioms proved
end Go.Proofs.Ytcbbilifblbblaa.typesDeep
