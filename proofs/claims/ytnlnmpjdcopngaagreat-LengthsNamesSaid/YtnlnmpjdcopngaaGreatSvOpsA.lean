/- Each operation of the evaluator's against the model's: the first part. -/
import Derived.Test.YtnlnmpjdcopngaaGreatSvRel
namespace Go.Sv
open Go.RowKit (Below)

section sem
variable {P : Program} {w : World}
theorem run_und {t : TypeId} {d : TypeDesc} (h : P.underlying t = some d) : (underlying t).run P w = .ok d w := by
  simp [underlying, h]
theorem run_info {t : TypeId} {i : TypeInfo} (h : P.info? t = some i) : (typeInfo t).run P w = .ok i w := by
  simp [typeInfo, h]
theorem run_size {t : TypeId} {n : Nat} (h : sizeT P t = some n) : (sizeOf t).run P w = .ok n w := by
  unfold sizeT at h
  cases hi : P.info? t with
  | none => simp [hi] at h
  | some i => simp only [hi, Option.map_some, Option.some.injEq] at h; simp [sizeOf, run_info hi, h]
theorem run_isAgg {t : TypeId} {b : Bool} (h : aggT P t = some b) : (isAgg t).run P w = .ok b w := by
  unfold aggT at h
  cases hu : P.underlying t with
  | none => simp [hu] at h
  | some d => cases d <;> simp [hu] at h <;> subst h <;> simp [isAgg, run_und hu]
theorem run_zeroT {t : TypeId} {l : List AV} (h : zeroT P t = some l) : ∃ v i, (zeroValue t).run P w = .ok v w ∧ absL v.cells.toList = some l ∧ P.info? t = some i ∧ l.length = i.size := by
  unfold zeroT at h
  cases hi : P.info? t with
  | none => simp [hi] at h
  | some i =>
    simp only [hi] at h
    cases hz : i.zero with
    | none => simp [hz] at h
    | some v =>
      simp only [hz] at h
      cases ha : absL v.cells.toList with
      | none => simp [ha] at h
      | some r =>
        simp only [ha] at h
        split at h
        · cases h; rename_i hl; exact ⟨v, i, by simp [zeroValue, run_info hi, hz], ha, rfl, hl⟩
        · cases h
theorem run_zeroV {t : TypeId} {a : AV} (h : zeroV P t = some a) : ∃ v, (zeroValue t).run P w = .ok v w ∧ absV v = some a := by
  unfold zeroV at h
  cases hi : P.info? t with
  | none => simp [hi] at h
  | some i =>
    simp only [hi] at h
    cases hz : i.zero with
    | none => simp [hz] at h
    | some v => simp only [hz] at h; exact ⟨v, by simp [zeroValue, run_info hi, hz], h⟩
end sem

/-- Operands. -/
def OpdOk (C : CM) (E : Tr AV) (ρ : Operand → Value) : Prop := ∀ x a, (opd x).run E = some a → VR C a (ρ x)

theorem opd_spec {n : Nat} {C : CM} {E : Tr AV} {a : Act} (h : ER n C E a.tmps) : OpdOk C E a.eval := by
  intro x av hx
  cases x with
  | tmp t =>
    unfold opd at hx
    dsimp only at hx
    split at hx
    · rename_i hb
      have := h.2.2 t (Nat.le_of_ble_eq_true hb)
      dsimp only at hx
      show VR C av (a.tmps.getD t undef)
      cases hg : getP (pathOf t) E with
      | none => rw [hg] at hx this; cases hx; rw [show a.tmps.getD t undef = undef from this]; exact .tup .nil
      | some b => rw [hg] at hx this; cases hx; exact this
    · cases hx
  | const v =>
    unfold opd at hx
    dsimp only at hx
    split at hx
    · rename_i b hb; cases hx; exact absV_spec hb
    · cases hx
  | global g => cases hx
  | func f => cases hx; exact .fn (.same _ (fun l e => by cases e)) .nil .nil

theorem opds_spec {C : CM} {E : Tr AV} {ρ : Operand → Value} (h : OpdOk C E ρ) : ∀ {xs : List Operand} {l : List AV}, (opds xs).run E = some l → VRs C l (xs.map ρ)
  | [], l, hl => by cases hl; exact .nil
  | x :: xs, l, hl => by
    unfold opds at hl
    dsimp only at hl
    split at hl
    · cases hl
    · rename_i a ha
      split at hl
      · cases hl
      · rename_i r hr; cases hl; exact .cons (h _ _ ha) (opds_spec h hr)

/-- What an operation that yields a value owes. -/
def ValOk (P : Program) (w0 : World) (C : CM) (w : World) (nx : Sem Next) (v : AV) (H' : Heap) : Prop :=
  ∃ C' w' x, C.le C' ∧ Rel w0 C' H' w' ∧ VR C' v x ∧ (nx.run P w = .ok (.value x) w' ∨ (nx.run P w = .ok .skip w' ∧ x = undef))
def CallOk (P : Program) (C : CM) (w : World) (nx : Sem Next) (t : Tgt) (args : List AV) : Prop :=
  ∃ vs : List Value, VRs C args vs ∧ ((∃ f, t = .fn f ∧ nx.run P w = .ok (.enter f vs.toArray) w) ∨ (∃ l L, t = .yield l ∧ C l 0 = some L ∧ nx.run P w = (Instr.yield L.b vs.toArray).run P w))
def OROk (P : Program) (w0 : World) (C : CM) (w : World) (nx : Sem Next) : OR → Prop
  | .no => True
  | .val v H' => ValOk P w0 C w nx v H'
  | .call t args => CallOk P C w nx t args

/-- An operation is right. -/
def Sound (P : Program) (f : OpF) (nx : (Operand → Value) → Sem Next) : Prop :=
  ∀ w0 C H w E ρ, Rel w0 C H w → OpdOk C E ρ → OROk P w0 C w (nx ρ) (f.run E H)

theorem stuck_sound (P : Program) (nx : (Operand → Value) → Sem Next) : Sound P stuckF nx := fun _ _ _ _ _ _ _ _ => trivial

/-- A value that is made of one operand, or of two. -/
theorem unary1_sound {P : Program} {x : Operand} {f : Heap → AV → OR} {nx : (Operand → Value) → Sem Next}
    (h : ∀ w0 C H w ρ a, Rel w0 C H w → VR C a (ρ x) → OROk P w0 C w (nx ρ) (f H a)) : Sound P (unary1 x f) nx := by
  intro w0 C H w E ρ hR hρ
  show OROk P w0 C w (nx ρ) (Option.rec OR.no (fun a => f H a) ((opd x).run E))
  cases hx : (opd x).run E with
  | none => exact trivial
  | some a => exact h _ _ _ _ _ _ hR (hρ _ _ hx)
theorem binary2_sound {P : Program} {x y : Operand} {f : Heap → AV → AV → OR} {nx : (Operand → Value) → Sem Next}
    (h : ∀ w0 C H w ρ a b, Rel w0 C H w → VR C a (ρ x) → VR C b (ρ y) → OROk P w0 C w (nx ρ) (f H a b)) : Sound P (binary2 x y f) nx := by
  intro w0 C H w E ρ hR hρ
  show OROk P w0 C w (nx ρ) (Option.rec OR.no (fun a => Option.rec OR.no (fun b => f H a b) ((opd y).run E)) ((opd x).run E))
  cases hx : (opd x).run E with
  | none => exact trivial
  | some a =>
    cases hy : (opd y).run E with
    | none => exact trivial
    | some b => exact h _ _ _ _ _ _ _ hR (hρ _ _ hx) (hρ _ _ hy)

/-- Nothing but a value comes of it. -/
theorem val_same {P : Program} {w0 : World} {C : CM} {H : Heap} {w : World} {nx : Sem Next} {v : AV} {x : Value} (hR : Rel w0 C H w) (hv : VR C v x) (hrun : nx.run P w = .ok (.value x) w) :
    ValOk P w0 C w nx v H := ⟨C, w, x, CM.le_refl C, hR, hv, .inl hrun⟩

theorem move_sound (P : Program) (x : Operand) : Sound P (unary1 x fun H a => .val a H) (fun ρ => pure (.value (ρ x))) :=
  unary1_sound fun _ _ _ _ _ _ hR hv => val_same hR hv rfl

theorem pick_sound (P : Program) (c a b : Operand) : Sound P (compOp P (.pick c a b)) (fun ρ => do pure (.value (if ← asBool (ρ c) then ρ a else ρ b))) := by
  intro w0 C H w E ρ hR hρ
  show OROk P w0 C w _ (match (opd c).run E with
    | some (.bool true) => ret1 H ((opd a).run E)
    | some (.bool false) => ret1 H ((opd b).run E)
    | _ => .no)
  split
  · rename_i hc
    have hc' := hρ _ _ hc
    cases ha : (opd a).run E with
    | none => exact trivial
    | some v =>
      have hv := hρ _ _ ha
      refine val_same hR hv ?_
      cases hcv : ρ c <;> rw [hcv] at hc' <;> cases hc'
      simp [asBool, hcv]
  · rename_i hc
    have hc' := hρ _ _ hc
    cases hb : (opd b).run E with
    | none => exact trivial
    | some v =>
      have hv := hρ _ _ hb
      refine val_same hR hv ?_
      cases hcv : ρ c <;> rw [hcv] at hc' <;> cases hc'
      simp [asBool, hcv]
  · exact trivial

theorem newVar_ok {P : Program} {w0 : World} {C : CM} {H : Heap} {w : World} (hR : Rel w0 C H w) (t : TypeId) {l : List AV} {cs : Array Value} (hv : VRs C l cs.toList) (h1 : ∀ a ∈ l, a.one = true)
    {nx : Sem Next} (hnx : nx.run P w = .ok (.value (.pointer (some ⟨w.heap.size, 0, none⟩))) (w.alloc (.cells cs t))) : OROk P w0 C w nx (newVarA H l) := by
  unfold newVarA
  cases hn : newObj H l with
  | none => exact trivial
  | some r =>
    obtain ⟨o, H'⟩ := r
    have hlen : l.length = cs.toList.length := hv.length
    have hlen' : l.length = cs.size := by simpa using hlen
    obtain ⟨C', hle, hR', hC'⟩ := hR.newRow hn t (0, 0) (vs := cs) (by omega) (by rw [hlen, List.take_length]; exact hv) h1 (by simp)
    exact ⟨C', _, _, hle, hR', by simpa using VR.ptr (i := 0) hC', .inl hnx⟩

theorem alloc_sound (P : Program) (t : TypeId) : Sound P (compOp P (.alloc t)) (fun _ => do pure (.value (← Instr.alloc t true (.tuple #[])))) := by
  intro w0 C H w E ρ hR hρ
  show OROk P w0 C w _ (OpF.run (match zeroT P t with
    | some l => ⟨fun _ H => newVarA H l⟩
    | none => stuckF) E H)
  cases hz : zeroT P t with
  | none => exact trivial
  | some l =>
    obtain ⟨v, i, h1, h2, h3, h4⟩ := run_zeroT (w := w) hz
    obtain ⟨k1, k2⟩ := absL_spec (C := C) h2
    refine newVar_ok hR t k1 k2 ?_
    simp [Instr.alloc, h1, newVar, newRow]

theorem box_sound (P : Program) (t : TypeId) (x : Operand) : Sound P (compOp P (.box t x)) (fun ρ => do pure (.value (← Instr.box t (ρ x)))) := by
  refine unary1_sound fun w0 C H w ρ a hR hv => ?_
  cases hc : a.cells with
  | none => exact trivial
  | some l =>
    obtain ⟨k1, k2⟩ := hv.cells hc
    exact newVar_ok hR t k1 k2 (by simp [Instr.box, newVar, newRow])

/-! ### Loads and stores -/
theorem load_sound (P : Program) (t : TypeId) (x : Operand) : Sound P (loadF P t x) (fun ρ => do pure (.value (← Instr.loadAt t (ρ x)))) := by
  unfold loadF
  split
  · rename_i n ha hs
    refine unary1_sound fun w0 C H w ρ a hR hv => ?_
    split
    · rename_i o v i
      split
      · rename_i l hl
        generalize hx : ρ x = px at hv
        cases hv with
        | ptr hL =>
          obtain ⟨vs, h1, h2, h3, h4, _⟩ := hR.read P hl hL
          refine val_same hR (.agg (vs := vs.toArray) (by simpa using h2) h3) ?_
          simp [Instr.loadAt, Instr.sureAddr, loadVar, run_isAgg ha, run_size hs, h1]
      · exact trivial
    · exact trivial
  · rename_i n ha hs
    refine unary1_sound fun w0 C H w ρ a hR hv => ?_
    split
    · rename_i o v i
      split
      · rename_i c hl
        generalize hx : ρ x = px at hv
        cases hv with
        | ptr hL =>
          obtain ⟨vs, h1, h2, h3, h4, h5, h6⟩ := hR.read P hl hL
          have h6' := h6 0 (by omega)
          match vs, h2 with
          | [u], .cons hu .nil =>
            refine val_same hR hu ?_
            simp only [Nat.add_zero, List.getElem?_cons_zero] at h6'
            simp [Instr.loadAt, Instr.sureAddr, loadVar, run_isAgg ha, h6']
      · exact trivial
    · exact trivial
  · exact stuck_sound P _

theorem store_sound (P : Program) (t : TypeId) (x y : Operand) : Sound P (storeF P t x y) (fun ρ => do Instr.storeAt t (ρ x) (ρ y); pure .skip) := by
  unfold storeF
  split
  · rename_i n hs
    refine binary2_sound fun w0 C H w ρ a b hR hv hb => ?_
    split
    · rename_i o v i
      split
      · rename_i l hl
        split
        · rename_i hn
          split
          · rename_i H' hw
            generalize hx : ρ x = px at hv
            cases hv with
            | ptr hL =>
              obtain ⟨k1, k2⟩ := hb.cells hl
              obtain ⟨w', h1, h2⟩ := hR.write P hw hL k1 k2
              refine ⟨C, w', undef, CM.le_refl C, h2, .tup .nil, .inr ⟨?_, rfl⟩⟩
              have hlen : (ρ y).cells.size = n := by have := k1.length; have := Nat.eq_of_beq_eq_true hn; simp at *; omega
              simp [Instr.storeAt, Instr.sureAddr, storeVar, run_size hs, hlen, h1]
          · exact trivial
        · exact trivial
      · exact trivial
    · exact trivial
  · exact stuck_sound P _

theorem nilCheck_sound (P : Program) (x : Operand) (o : Oper) (ho : o.op = .nilCheck x) : Sound P (unary1 x nilCheckA) (fun ρ => execOp ρ o) := by
  refine unary1_sound fun w0 C H w ρ a hR hv => ?_
  unfold nilCheckA
  split
  · generalize hx : ρ x = px at hv
    have hv0 := hv
    cases hv with
    | ptr hL => exact val_same hR hv0 (by simp [execOp, ho, hx])
  · generalize hx : ρ x = px at hv
    have hv0 := hv
    cases hv with
    | iface h => exact val_same hR hv0 (by simp [execOp, ho, hx])
  · generalize hx : ρ x = px at hv
    have hv0 := hv
    cases hv with
    | fn h => cases h with
      | same => exact val_same hR hv0 (by simp [execOp, ho, hx])
  · generalize hx : ρ x = px at hv
    have hv0 := hv
    cases hv with
    | map hL => exact val_same hR hv0 (by simp [execOp, ho, hx])
  · exact trivial

end Go.Sv
