/- Each operation of the evaluator's against the model's: operators, conversions, composite values. -/
import Derived.Test.YtnlnmpjdcopngaaGreatSvOpsD
import Derived.Lib.Strings
namespace Go.Sv
open Go.RowKit (Below)

theorem eqGuard_run {P : Program} {w : World} (op : BinOp) (t : TypeId) (x y : Operand) {a b : Value} (h1 : ¬ (a = .nilIface ∧ b = .nilIface)) (h2 : ∀ c d, ¬ (a = .agg c ∧ b = .agg d)) :
    (eqGuard op t x y a b).run P w = .ok () w := by
  unfold eqGuard
  split <;> first
    | rfl
    | (rw [if_neg (by decide)]
       split
       · exact absurd ⟨rfl, rfl⟩ h1
       · exact absurd ⟨rfl, rfl⟩ (h2 _ _)
       · rfl)
theorem eqGuard_ints {P : Program} {w : World} (op : BinOp) (t : TypeId) (x y : Operand) (k k' : IntKind) (a b : Int) : (eqGuard op t x y (.int k a) (.int k' b)).run P w = .ok () w :=
  eqGuard_run op t x y (fun h => by cases h.1) (fun _ _ h => by cases h.1)
theorem eqGuard_ok {P : Program} {w : World} {C : CM} (op : BinOp) (t : TypeId) (x y : Operand) {a b : AV} {u v : Value} (hu : VR C a u) (hv : VR C b v)
    (hg : guardT P (isConstO x || isConstO y) t a b = true) : (eqGuard op t x y u v).run P w = .ok () w := by
  by_cases h1 : u = .nilIface ∧ v = .nilIface
  · obtain ⟨rfl, rfl⟩ := h1
    cases hu; cases hv
    have hc : (isConstO x || isConstO y) = true := hg
    unfold eqGuard
    split <;> first
      | rfl
      | (rw [if_neg (by decide)]
         dsimp only
         rw [if_pos]
         · rfl
         · cases x <;> cases y <;> simp_all [isConstO])
  · by_cases h2 : ∃ c d, u = .agg c ∧ v = .agg d
    · obtain ⟨c, d, rfl, rfl⟩ := h2
      cases hu; cases hv
      exact run_eqGuard_agg w op t x y c d (by simpa [guardT] using hg)
    · exact eqGuard_run op t x y h1 (fun c d h => h2 ⟨c, d, h⟩)

theorem binOp_eql {t : TypeId} {C : CM} {a b : AV} {u v : Value} (hu : VR C a u) (hv : VR C b v) (h1 : ∀ k x k' y, ¬ (a = .int k x ∧ b = .int k' y)) (h2 : ∀ l x m y, ¬ (a = .str l x ∧ b = .str m y)) :
    binOp .eql t u v = (do pure (.bool (← Op.equal t u v))) ∧ binOp .neq t u v = (do pure (.bool (!(← Op.equal t u v)))) := by
  cases hu <;> cases hv <;> first
    | exact ⟨rfl, rfl⟩
    | exact absurd ⟨rfl, rfl⟩ (h1 _ _ _ _)
    | exact absurd ⟨rfl, rfl⟩ (h2 _ _ _ _)

theorem eqA_spec {P : Program} {w : World} {C : CM} {g : Bool} {t : TypeId} {a b : AV} {r : Bool} (h : eqA P g t a b = some r) {u v : Value} (hu : VR C a u) (hv : VR C b v) :
    guardT P g t a b = true ∧ (Op.equal t u v).run P w = .ok r w := by
  unfold eqA at h
  split at h
  · rename_i hg; exact ⟨hg, eqT_spec 9980 20 t a b r u v h hu hv⟩
  · cases h

theorem binA_spec {P : Program} {w : World} {C : CM} {op : BinOp} {t : TypeId} (x y : Operand) {a b r : AV} (h : binA P op (isConstO x || isConstO y) t a b = some r) {u v : Value} (hu : VR C a u) (hv : VR C b v) :
    (eqGuard op t x y u v).run P w = .ok () w ∧ ∃ z, (binOp op t u v).run P w = .ok z w ∧ VR C r z := by
  unfold binA at h
  split at h
  · cases hu; cases hv
    refine ⟨eqGuard_ints op t x y _ _ _ _, ?_⟩
    split at h
    · obtain ⟨z, h1, h2⟩ := shiftA_spec P w (.inl rfl) t h; exact ⟨z, h1, h2 C⟩
    · obtain ⟨z, h1, h2⟩ := shiftA_spec P w (.inr rfl) t h; exact ⟨z, h1, h2 C⟩
    · split at h
      · rename_i hk
        have := kindEq_spec hk
        subst this
        obtain ⟨z, h1, h2⟩ := arith_spec P w t h; exact ⟨z, h1, h2 C⟩
      · cases h
  · cases hu with
    | str h1 h2 =>
      cases hv with
      | str h3 h4 =>
        subst h1 h2 h3 h4
        refine ⟨eqGuard_run op t x y (fun h => by cases h.1) (fun _ _ h => by cases h.1), ?_⟩
        obtain ⟨z, h1, h2⟩ := strOp_spec P w t h
        exact ⟨z, h1, h2 C⟩
  · rename_i n1 n2
    have hb := binOp_eql (t := t) hu hv (fun k x k' y e => n1 k x k' y e.1 e.2) (fun l x m y e => n2 l x m y e.1 e.2)
    split at h
    · cases he : eqA P (isConstO x || isConstO y) t a b with
      | none => rw [he] at h; cases h
      | some s =>
        rw [he] at h; cases h
        obtain ⟨h1, h2⟩ := eqA_spec (w := w) he hu hv
        exact ⟨eqGuard_ok _ t x y hu hv h1, .bool s, by rw [hb.1]; simp [h2], .bool s⟩
    · cases he : eqA P (isConstO x || isConstO y) t a b with
      | none => rw [he] at h; cases h
      | some s =>
        rw [he] at h; cases h
        obtain ⟨h1, h2⟩ := eqA_spec (w := w) he hu hv
        exact ⟨eqGuard_ok _ t x y hu hv h1, .bool (!s), by rw [hb.2]; simp [h2], .bool (!s)⟩
    · cases h

theorem ret1_ok {P : Program} {w0 : World} {C : CM} {H : Heap} {w : World} {nx : Sem Next} {o : Option AV} (hR : Rel w0 C H w)
    (h : ∀ a, o = some a → ∃ z, nx.run P w = .ok (.value z) w ∧ VR C a z) : OROk P w0 C w nx (ret1 H o) := by
  cases o with
  | none => exact trivial
  | some a => obtain ⟨z, h1, h2⟩ := h a rfl; exact val_same hR h2 h1

theorem bin_sound (P : Program) (op : BinOp) (t yt : TypeId) (x y : Operand) (o : Oper) (ho : o.op = .binOp op t x y yt) : Sound P (compOp P (.binOp op t x y yt)) (fun ρ => execOp ρ o) := by
  refine binary2_sound fun w0 C H w ρ a b hR ha hb => ret1_ok hR fun r hr => ?_
  obtain ⟨h1, z, h2, h3⟩ := binA_spec (w := w) x y hr ha hb
  exact ⟨z, by simp [execOp, ho, h1, h2], h3⟩

theorem un_sound (P : Program) (op : UnOp) (t : TypeId) (x : Operand) (o : Oper) (ho : o.op = .unOp op t x) : Sound P (compOp P (.unOp op t x)) (fun ρ => execOp ρ o) := by
  refine unary1_sound fun w0 C H w ρ a hR ha => ret1_ok hR fun r hr => ?_
  unfold unA at hr
  split at hr
  · rename_i k n
    cases hr
    generalize hx : ρ x = px at ha
    cases ha
    exact ⟨.int k (k.wrap (0 - n)), by simp [execOp, ho, hx, Op.unary, Op.intArith], by rw [wrapA_spec]; exact .int _ _⟩
  · rename_i k n
    cases hr
    generalize hx : ρ x = px at ha
    cases ha
    exact ⟨.int k (k.wrap (BitVec.ofInt k.bits (if k.signed then -1 else k.max) ^^^ BitVec.ofInt k.bits n).toNat), by simp [execOp, ho, hx, Op.unary, Op.intBits], .int _ _⟩
  · rename_i b
    cases hr
    generalize hx : ρ x = px at ha
    cases ha
    exact ⟨.bool (!b), by simp [execOp, ho, hx, Op.unary], .bool _⟩
  · cases hr

/-! ### Composite values -/
theorem layL_length : ∀ (l cs : List AV) (i : Nat), (layL cs i l).length = cs.length
  | [], cs, i => rfl
  | a :: l, cs, i => by rw [layL, layL_length l]; simp
theorem VRs.set {C : CM} : ∀ {l : List AV} {r : List Value}, VRs C l r → ∀ (i : Nat) {a : AV} {v : Value}, VR C a v → VRs C (l.set i a) (r.set i v)
  | _, _, .nil, _, _, _, _ => .nil
  | _, _, .cons _ es, 0, _, _, h => .cons h es
  | _, _, .cons e es, i + 1, _, _, h => .cons e (VRs.set es i h)
theorem one_set {l : List AV} (h : ∀ a ∈ l, a.one = true) {i : Nat} {a : AV} (ha : a.one = true) : ∀ b ∈ l.set i a, b.one = true := by
  intro b hb
  rcases List.mem_or_eq_of_mem_set hb with h' | h'
  · exact h b h'
  · rw [h']; exact ha

theorem foldl_lay {C : CM} {off : Nat} : ∀ (l : List AV) (r : List Value) (cs : List AV) (us : Array Value) (j : Nat), VRs C l r → (∀ a ∈ l, a.one = true) → VRs C cs us.toList → (∀ a ∈ cs, a.one = true) →
    VRs C (layL cs (off + j) l) ((r.zipIdx j).foldl (fun cs (c, j) => cs.setIfInBounds (off + j) c) us).toList ∧ (∀ a ∈ layL cs (off + j) l, a.one = true)
  | [], _, cs, us, j, .nil, _, h, h1 => ⟨h, h1⟩
  | a :: l, v :: r, cs, us, j, .cons e es, ha, h, h1 => by
    simp only [layL, List.zipIdx_cons, List.foldl_cons]
    have := foldl_lay (off := off) l r (cs.set (off + j) a) (us.setIfInBounds (off + j) v) (j + 1) es (fun b hb => ha b (by simp [hb]))
      (by rw [Array.toList_setIfInBounds]; exact h.set _ e) (one_set h1 (ha a (by simp)))
    rw [show off + j + 1 = off + (j + 1) from by omega]
    exact this

theorem zipIdx_arr (v : Array Value) (off : Nat) (us : Array Value) : v.zipIdx.foldl (fun cs (c, j) => cs.setIfInBounds (off + j) c) us = (v.toList.zipIdx 0).foldl (fun cs (c, j) => cs.setIfInBounds (off + j) c) us := by
  rw [← Array.foldl_toList, Array.toList_zipIdx]

theorem partsAt_spec {place : Nat → Option (Nat × Nat)} : ∀ {l : List (Nat × Operand)} {ps : List Part}, partsAt place l = some ps →
    ∀ {C : CM} {E : Tr AV} {ρ : Operand → Value}, OpdOk C E ρ → ∀ {cs r : List AV} {us : Array Value}, fillA cs ps E = some r → VRs C cs us.toList → (∀ a ∈ cs, a.one = true) →
    ∃ vs, Instr.fill place us (l.map fun (i, x) => (i, ρ x)) = some vs ∧ VRs C r vs.toList ∧ (∀ a ∈ r, a.one = true)
  | [], ps, h, C, E, ρ, hρ, cs, r, us, hf, hv, h1 => by
    cases h; cases hf; exact ⟨us, rfl, hv, h1⟩
  | (i, x) :: l, ps, h, C, E, ρ, hρ, cs, r, us, hf, hv, h1 => by
    simp only [partsAt] at h
    split at h
    · cases h
    · rename_i o s hpl
      split at h
      · cases h
      · rename_i ps' hps
        cases h
        simp only [fillA] at hf
        split at hf
        · cases hf
        · rename_i a ha
          split at hf
          · cases hf
          · rename_i q hq
            split at hf
            · rename_i hlen
              split at hf
              · rename_i hle
                have hlen' : q.length = s := Nat.eq_of_beq_eq_true hlen
                have hle' : o + s ≤ cs.length := Nat.le_of_ble_eq_true hle
                obtain ⟨k1, k2⟩ := (hρ _ _ ha).cells hq
                have hsz := k1.length
                have hcs := hv.length
                have hl := foldl_lay (off := o) q _ cs us 0 k1 k2 hv h1
                rw [Nat.add_zero] at hl
                obtain ⟨vs, q1, q2, q3⟩ := partsAt_spec hps hρ hf hl.1 hl.2
                refine ⟨vs, ?_, q2, q3⟩
                have e1 : (ρ x).cells.size = s := by rw [← hlen', hsz]; simp
                have hneg : ¬ ((decide ((ρ x).cells.size ≠ s) || decide (o + (ρ x).cells.size > us.size)) = true) := by
                  intro hh
                  simp only [ne_eq, Bool.or_eq_true, decide_eq_true_eq] at hh
                  rcases hh with hh | hh
                  · exact hh e1
                  · simp at hcs; omega
                rw [List.map_cons]
                simp only [Instr.fill, hpl]
                rw [if_neg hneg, zipIdx_arr]
                exact q1
              · cases hf
            · cases hf

theorem fieldsAt_spec {P : Program} {w : World} : ∀ {l : List Field} {r : List (Nat × Nat)}, fieldsAt P l = some r →
    (l.mapM fun f => do pure (f.offset, ← sizeOf f.type) : Sem (List (Nat × Nat))).run P w = .ok r w
  | [], r, h => by cases h; rfl
  | f :: l, r, h => by
    simp only [fieldsAt] at h
    split at h
    · cases h
    · rename_i s hs
      split at h
      · cases h
      · rename_i r' hr
        cases h
        simp only [List.mapM_cons, Sem.run_bind, run_size hs, Result.andThen_ok, Sem.run_pure, fieldsAt_spec hr]

theorem build_sound (P : Program) (t : TypeId) (parts : Array (Nat × Operand)) : Sound P (buildF P t parts) (fun ρ => do pure (.value (← Instr.build t (parts.map fun (i, x) => (i, ρ x))))) := by
  unfold buildF
  split
  · exact stuck_sound P _
  · rename_i cs hz
    split
    · rename_i fields hu
      split
      · exact stuck_sound P _
      · rename_i pl hpl
        split
        · exact stuck_sound P _
        · rename_i ps hps
          intro w0 C H w E ρ hR hρ
          dsimp only
          split
          · rename_i l hl
            obtain ⟨v, i, h1, h2, h3, h4⟩ := run_zeroT (w := w) hz
            obtain ⟨k1, k2⟩ := absL_spec (C := C) h2
            obtain ⟨vs, q1, q2, q3⟩ := partsAt_spec hps hρ hl k1 k2
            refine val_same hR (.agg q2 q3) ?_
            have hm : (fields.mapM fun f => do pure (f.offset, ← sizeOf f.type) : Sem (Array (Nat × Nat))).run P w = .ok pl.toArray w := by
              rw [Array.mapM_eq_mapM_toList]
              simp only [Sem.run_map, fieldsAt_spec hpl, Result.andThen_ok]
            have hf : Instr.fill (pl.toArray[·]?) v.cells (parts.map fun (i, x) => (i, ρ x)).toList = some vs := by
              rw [Array.toList_map]
              have : (fun i : Nat => pl.toArray[i]?) = (fun i : Nat => pl[i]?) := by funext i; simp
              rw [this]; exact q1
            simp only [Instr.build, Sem.run_bind, h1, run_und hu, hm, Result.andThen_ok, hf, Sem.run_pure]
          · exact trivial
    · rename_i n elem hu
      split
      · exact stuck_sound P _
      · rename_i size hs
        split
        · exact stuck_sound P _
        · rename_i ps hps
          intro w0 C H w E ρ hR hρ
          dsimp only
          split
          · rename_i l hl
            obtain ⟨v, i, h1, h2, h3, h4⟩ := run_zeroT (w := w) hz
            obtain ⟨k1, k2⟩ := absL_spec (C := C) h2
            obtain ⟨vs, q1, q2, q3⟩ := partsAt_spec hps hρ hl k1 k2
            refine val_same hR (.agg q2 q3) ?_
            have hf : Instr.fill (fun i => some (i * size, size)) v.cells (parts.map fun (i, x) => (i, ρ x)).toList = some vs := by
              rw [Array.toList_map]; exact q1
            simp only [Instr.build, Sem.run_bind, h1, run_und hu, run_size hs, Result.andThen_ok, hf, Sem.run_pure]
          · exact trivial
    · exact stuck_sound P _

end Go.Sv
