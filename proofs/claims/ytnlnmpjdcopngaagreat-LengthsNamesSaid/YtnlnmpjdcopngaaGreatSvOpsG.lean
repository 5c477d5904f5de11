/- Each operation of the evaluator's against the model's: slicing, indexing. -/
import Derived.Test.YtnlnmpjdcopngaaGreatSvOpsF
namespace Go.Sv
open Go.RowKit (Below)

theorem mul_split {l c : Nat} (e : Nat) (h : l ≤ c) : l * e + (c - l) * e = c * e := by
  rw [← Nat.add_mul]; congr 1; omega

/-- A slice's bounds as they are read. -/
def OptR (r : Option Nat) (v : Option Value) : Prop := match r with
  | none => v = none
  | some n => ∃ k, v = some (.int k (Int.ofNat n))
theorem optF_spec {C : CM} {E : Tr AV} {ρ : Operand → Value} (hρ : OpdOk C E ρ) {x : Option Operand} {r : Option Nat} (h : (optF x).run E = some r) : OptR r (x.map ρ) := by
  cases x with
  | none => cases h; rfl
  | some x =>
    unfold optF at h
    dsimp only at h
    split at h
    · rename_i k n hx
      cases h
      have := hρ _ _ hx
      generalize hv : ρ x = v at this
      cases this
      exact ⟨k, by simp [hv]⟩
    · cases h
theorem run_sliceBound {P : Program} {w : World} (k : IntKind) {n y : Nat} (c : BoundsCode) (h : n ≤ y) : (Instr.sliceBound (.int k (Int.ofNat n)) y c).run P w = .ok n w := by
  have : (0 : Int) ≤ Int.ofNat n ∧ Int.ofNat n ≤ (y : Int) := ⟨by simp, by simp; omega⟩
  simp only [Instr.sliceBound, asIntOf, Sem.run_bind, Sem.run_pure, Result.andThen_ok, Sem.run_ite, if_pos this]
  rfl
theorem run_sliceBounds {P : Program} {w : World} (isSlice : Bool) {len cap : Nat} {lo hi mx : Option Nat} {a b c : Option Value} (ha : OptR lo a) (hb : OptR hi b) (hc : OptR mx c)
    (hm : mx.isSome = true → hi.isSome = true) (h1 : lo.getD 0 ≤ hi.getD len) (h2 : hi.getD len ≤ mx.getD cap) (h3 : mx.getD cap ≤ cap) :
    (Instr.sliceBounds isSlice len cap a b c).run P w = .ok (lo.getD 0, hi.getD len, mx.getD cap) w := by
  cases mx with
  | none =>
    cases hc
    simp only [Option.getD_none] at h2 h3
    cases hi with
    | none =>
      cases hb
      cases lo with
      | none => cases ha; simp [Instr.sliceBounds]
      | some l =>
        obtain ⟨k, rfl⟩ := ha
        simp only [Option.getD_some, Option.getD_none] at h1
        simp only [Instr.sliceBounds, Sem.run_bind, Sem.run_pure, Result.andThen_ok, run_sliceBound k _ h1, Option.getD]
    | some h =>
      obtain ⟨k, rfl⟩ := hb
      simp only [Option.getD_some] at h1 h2
      cases lo with
      | none => cases ha; simp only [Instr.sliceBounds, Sem.run_bind, Sem.run_pure, Result.andThen_ok, run_sliceBound k _ h2, Option.getD]
      | some l =>
        obtain ⟨k', rfl⟩ := ha
        simp only [Option.getD_some] at h1
        simp only [Instr.sliceBounds, Sem.run_bind, Sem.run_pure, Result.andThen_ok, run_sliceBound k _ h2, run_sliceBound k' _ h1, Option.getD]
  | some m =>
    obtain ⟨km, rfl⟩ := hc
    simp only [Option.getD_some] at h2 h3
    cases hi with
    | none => simp at hm
    | some h =>
      obtain ⟨k, rfl⟩ := hb
      simp only [Option.getD_some] at h1 h2
      cases lo with
      | none => cases ha; simp only [Instr.sliceBounds, Sem.run_bind, Sem.run_pure, Result.andThen_ok, run_sliceBound km _ h3, run_sliceBound k _ h2, Option.getD]
      | some l =>
        obtain ⟨k', rfl⟩ := ha
        simp only [Option.getD_some] at h1
        simp only [Instr.sliceBounds, Sem.run_bind, Sem.run_pure, Result.andThen_ok, run_sliceBound km _ h3, run_sliceBound k _ h2, run_sliceBound k' _ h1, Option.getD]

/-- What a cut of a slice is, done with numbers. -/
theorem cutSl_spec {C : CM} {o v i esz l h m : Nat} {L : Loc} (hL : C o v = some L) (h1 : l ≤ h) (h2 : h ≤ m) (h3 : i + m * esz ≤ L.n) (h4 : L.d + i + m * esz ≤ L.sz) :
    VR C (cutSl l h m o v i esz) (.slice (some (if m = l then ⟨L.b, L.d + i, none⟩ else (⟨L.b, L.d + i, none⟩ : Addr).add (l * esz))) (h - l) (m - l)) := by
  unfold cutSl
  split
  · rename_i he
    have he' : l = m := Nat.eq_of_beq_eq_true he
    subst he'
    have : h = l := by omega
    subst this
    rw [if_pos rfl, Nat.sub_self]
    split
    · exact .sl hL (by omega) (by omega) (Nat.le_refl _) (fun r hr => by cases hr; exact ⟨rfl, by omega⟩) (fun e => by cases e)
    · exact .emp
  · rename_i he
    have he' : ¬ m = l := fun e => by rw [e, Nat.beq_refl] at he; cases he
    rw [if_neg he', add_addr]
    have q1 := mul_split esz (Nat.le_trans h1 h2)
    have q2 := mul_split esz h1
    have q3 : h * esz ≤ m * esz := Nat.mul_le_mul_right _ h2
    have e1 : Nat.add i (Nat.mul l esz) = i + l * esz := rfl
    have e2 : Nat.sub h l = h - l := rfl
    have e3 : Nat.sub m l = m - l := rfl
    rw [e1, e2, e3]
    exact .sl hL (by omega) (by omega) (by omega) (fun r hr => by cases hr; exact ⟨rfl, by omega⟩) (fun e => by cases e)

theorem sliceSl'_spec {C : CM} {o v i len esz l h cap : Nat} {room mx : Option Nat} {r : AV} {L : Loc} (hL : C o v = some L) (h1 : i + len * esz ≤ L.n) (h2 : L.d + i + cap * esz ≤ L.sz) (h3 : len ≤ cap)
    (h4 : ∀ r, room = some r → cap = r ∧ i + r * esz ≤ L.n) (h5 : room = none → L.d + i + cap * esz = L.sz) (hs : sliceSl' l h (room.getD len) mx o v i esz room = some r) :
    l ≤ h ∧ h ≤ mx.getD cap ∧ mx.getD cap ≤ cap ∧
    VR C r (.slice (some (if mx.getD cap = l then ⟨L.b, L.d + i, none⟩ else (⟨L.b, L.d + i, none⟩ : Addr).add (l * esz))) (h - l) (mx.getD cap - l)) := by
  unfold sliceSl' at hs
  split at hs
  · cases hs
  · rename_i hlh
    have hlh' : l ≤ h := Nat.le_of_ble_eq_true hlh
    split at hs
    · cases hs
    · rename_i hhm
      have hhm' : h ≤ room.getD len := Nat.le_of_ble_eq_true hhm
      -- what the most is
      have hmost : room.getD len ≤ cap ∧ i + room.getD len * esz ≤ L.n := by
        cases room with
        | none => exact ⟨h3, h1⟩
        | some r => obtain ⟨q1, q2⟩ := h4 r rfl; exact ⟨by simp [q1], q2⟩
      split at hs
      · rename_i m
        split at hs
        · cases hs
        · rename_i hm1
          have hm1' : h ≤ m := Nat.le_of_ble_eq_true hm1
          split at hs
          · cases hs
          · rename_i hm2
            have hm2' : m ≤ room.getD len := Nat.le_of_ble_eq_true hm2
            cases hs
            have q1 : m * esz ≤ room.getD len * esz := Nat.mul_le_mul_right _ hm2'
            have q2 : m * esz ≤ cap * esz := Nat.mul_le_mul_right _ (by omega)
            exact ⟨hlh', hm1', by simp; omega, cutSl_spec hL hlh' hm1' (by omega) (by omega)⟩
      · split at hs
        · rename_i rr
          cases hs
          obtain ⟨q1, q2⟩ := h4 rr rfl
          subst q1
          exact ⟨hlh', hhm', Nat.le_refl _, cutSl_spec hL hlh' hhm' q2 h2⟩
        · have h5' := h5 rfl
          simp only [Option.getD_none] at hhm' ⊢
          have q3 : h * esz ≤ len * esz := Nat.mul_le_mul_right _ hhm'
          split at hs
          · rename_i h0
            have h0' : l = 0 := Nat.eq_of_beq_eq_true h0
            subst h0'
            cases hs
            refine ⟨hlh', by omega, Nat.le_refl _, ?_⟩
            have e : (if cap = 0 then (⟨L.b, L.d + i, none⟩ : Addr) else (⟨L.b, L.d + i, none⟩ : Addr).add (0 * esz)) = ⟨L.b, L.d + i, none⟩ := by
              split
              · rfl
              · rw [add_addr]; simp
            rw [e]
            exact .sl hL (by omega) (by simpa using h2) (by omega) (fun r hr => by cases hr) (fun _ => by simpa using h5')
          · rename_i h0
            split at hs
            · rename_i hlh2
              have e : l = h := Nat.eq_of_beq_eq_true hlh2
              subst e
              cases hs
              refine ⟨hlh', by omega, Nat.le_refl _, ?_⟩
              rw [Nat.sub_self]; exact .emp
            · rename_i hlh2
              have hne : ¬ l = h := fun e => by rw [e, Nat.beq_refl] at hlh2; cases hlh2
              cases hs
              refine ⟨hlh', by omega, Nat.le_refl _, ?_⟩
              rw [if_neg (by omega), add_addr]
              have q1 := mul_split esz (show l ≤ cap by omega)
              have q2 := mul_split esz hlh'
              have e1 : Nat.add i (Nat.mul l esz) = i + l * esz := rfl
              have e2 : Nat.sub h l = h - l := rfl
              rw [e1, e2]
              exact .sl hL (by omega) (by omega) (by omega) (fun r hr => by cases hr) (fun _ => by omega)

theorem isSome_map {α β : Type} (f : α → β) (x : Option α) : (x.map f).isSome = x.isSome := by cases x <;> rfl
theorem OptR.isSome {r : Option Nat} {v : Option Value} (h : OptR r v) : r.isSome = v.isSome := by
  cases r with
  | none => rw [show v = none from h]; rfl
  | some n => obtain ⟨k, rfl⟩ := h; rfl

theorem slice_sound (P : Program) (t : TypeId) (x : Operand) (lo hi mx : Option Operand) :
    Sound P (sliceF P t x lo hi mx) (fun ρ => do pure (.value (← Instr.sliceAt t (ρ x) (lo.map ρ) (hi.map ρ) (mx.map ρ)))) := by
  unfold sliceF
  split
  · rename_i hu
    split
    · exact stuck_sound P _
    · intro w0 C H w E ρ hR hρ
      dsimp only
      split
      · rename_i len n l h hx hl hh
        split
        · rename_i h1
          split
          · rename_i h2
            have h1' : l.getD 0 ≤ h.getD len := Nat.le_of_ble_eq_true h1
            have h2' : h.getD len ≤ len := Nat.le_of_ble_eq_true h2
            have hv := hρ _ _ hx
            have hl' := optF_spec hρ hl
            have hh' := optF_spec hρ hh
            generalize ρ x = px at hv
            cases hv with
            | @str _ _ s e1 e2 =>
              subst e1 e2
              have hb := run_sliceBounds (P := P) (w := w) false (len := s.size) (cap := s.size) (mx := none) (c := none) hl' hh' rfl (by simp) h1' (by simpa using h2') (by simp)
              refine val_same hR (x := .string (s.extract (l.getD 0) (h.getD s.size))) (.str ?_ ?_) ?_
              · rw [Lib.extract_data]
                have : (s.data.toList.length) = s.size := rfl
                simp; rw [this] at h2'; omega
              · rw [Lib.extract_data, packL_take, packL_drop]; rfl
              · simp only [Instr.sliceAt, Sem.run_bind, run_und hu, Result.andThen_ok, Instr.slice, Option.map_none, Option.isSome_none]
                simp [hb]
          · exact trivial
        · exact trivial
      · exact trivial
  · rename_i elem hu
    split
    · exact stuck_sound P _
    · rename_i hmx
      split
      · exact stuck_sound P _
      · rename_i size hs
        intro w0 C H w E ρ hR hρ
        dsimp only
        split
        · rename_i o v i len esz room l h m hx hl hh hm
          refine ret1_ok hR fun r hr => ?_
          have hv := hρ _ _ hx
          have hl' := optF_spec hρ hl
          have hh' := optF_spec hρ hh
          have hm' := optF_spec hρ hm
          generalize ρ x = px at hv
          cases hv with
          | @sl _ _ _ _ _ _ L cap hL q1 q2 q3 q4 q5 =>
            unfold sliceSl at hr
            split at hr
            · cases hr
            · rename_i hes
              have hes' : esz = size := Nat.eq_of_beq_eq_true hes
              subst hes'
              obtain ⟨k1, k2, k3, k4⟩ := sliceSl'_spec hL q1 q2 q3 q4 q5 hr
              have hb := run_sliceBounds (P := P) (w := w) true (len := len) (cap := cap) hl' hh' hm' (by
                rw [hm'.isSome, hh'.isSome, isSome_map, isSome_map]; intro e
                cases hi <;> simp_all) k1 k2 k3
              refine ⟨_, ?_, k4⟩
              simp only [Instr.sliceAt, Sem.run_bind, run_und hu, Result.andThen_ok, Instr.slice, hb, run_size hs, Sem.run_pure, Option.map_some]
              split <;> simp_all
        · rename_i l h hx hl hh hm
          split
          · rename_i h0
            have h0' : l.getD 0 + h.getD 0 = 0 := Nat.eq_of_beq_eq_true h0
            have hv := hρ _ _ hx
            have hl' := optF_spec hρ hl
            have hh' := optF_spec hρ hh
            have hm' := optF_spec hρ hm
            generalize ρ x = px at hv
            cases hv
            have hb := run_sliceBounds (P := P) (w := w) true (len := 0) (cap := 0) hl' hh' hm' (by simp) (by omega) (by simp; omega) (by simp)
            refine val_same hR .nilSl ?_
            have e1 : l.getD 0 = 0 := by omega
            have e2 : h.getD 0 = 0 := by omega
            rw [e1, e2] at hb
            simp only [Instr.sliceAt, Sem.run_bind, run_und hu, Result.andThen_ok, Instr.slice, hb, run_size hs, Sem.run_pure]
            simp
          · exact trivial
        · rename_i l h hx hl hh hm
          split
          · rename_i h0
            have h0' : l.getD 0 + h.getD 0 = 0 := Nat.eq_of_beq_eq_true h0
            have hv := hρ _ _ hx
            have hl' := optF_spec hρ hl
            have hh' := optF_spec hρ hh
            have hm' := optF_spec hρ hm
            generalize ρ x = px at hv
            cases hv with
            | @emp a cap =>
              have hb := run_sliceBounds (P := P) (w := w) true (len := 0) (cap := cap) hl' hh' hm' (by simp) (by omega) (by simp; omega) (by simp)
              have e1 : l.getD 0 = 0 := by omega
              have e2 : h.getD 0 = 0 := by omega
              rw [e1, e2] at hb
              refine val_same hR (x := .slice (some (if cap = 0 then a else a.add 0)) 0 cap) .emp ?_
              simp only [Instr.sliceAt, Sem.run_bind, run_und hu, Result.andThen_ok, Instr.slice, hb, run_size hs, Sem.run_pure]
              simp
              split <;> rfl
          · exact trivial
        · exact trivial
  · rename_i n elem hu
    split
    · exact stuck_sound P _
    · rename_i hmx
      split
      · exact stuck_sound P _
      · rename_i size hs
        intro w0 C H w E ρ hR hρ
        dsimp only
        split
        · rename_i o v i l h m hx hl hh hm
          split
          · rename_i c clen ver hg
            split
            · rename_i hv0
              split
              · rename_i hle
                have hle' : i + n * size ≤ clen := Nat.le_of_ble_eq_true hle
                have hv0' : v = ver := Nat.eq_of_beq_eq_true hv0
                subst hv0'
                refine ret1_ok hR fun r hr => ?_
                have hv := hρ _ _ hx
                have hl' := optF_spec hρ hl
                have hh' := optF_spec hρ hh
                have hm' := optF_spec hρ hm
                generalize ρ x = px at hv
                cases hv with
                | @ptr _ _ _ L hL =>
                  unfold sliceSl at hr
                  simp only [Nat.beq_refl] at hr
                  have hob := hR.obj o _ (hR.fresh _ _ _ hL) hg
                  obtain ⟨p1, _, p3, _⟩ := hob L hL
                  obtain ⟨k1, k2, k3, k4⟩ := sliceSl'_spec (cap := n) (len := n) (room := some n) hL (by omega) (by omega) (Nat.le_refl _) (fun r hr => by cases hr; exact ⟨rfl, by omega⟩) (fun e => by cases e) hr
                  have hb := run_sliceBounds (P := P) (w := w) false (len := n) (cap := n) hl' hh' hm' (by
                    rw [hm'.isSome, hh'.isSome, isSome_map, isSome_map]; intro e
                    cases hi <;> simp_all) k1 k2 k3
                  refine ⟨_, ?_, k4⟩
                  simp only [Instr.sliceAt, Instr.sureAddr, Sem.run_bind, run_und hu, Result.andThen_ok, hb, run_size hs, Sem.run_pure]
              · exact trivial
            · exact trivial
          · exact trivial
        · exact trivial
  · exact stuck_sound P _

end Go.Sv
