/- What an operation comes to in the logic, the evaluator's operation comes to. -/
import Derived.Test.YtlfffpmdofacjaaLgOps
namespace Go.Sv

section res
variable {P : Program} {c : Cx} {G : LHeap} {K : LV → LHeap → Prop}

theorem pushNil_ok (hs : HSim c G) {size : Nat} (k : K (.dy G.length 0) (G ++ [.dyn [] 0 size 0 0])) : OpRes P c G K (.val .nilSl c.H) := by
  obtain ⟨q1, q2, _⟩ := hs.push (H' := c.H) (x := .nilSl) (ob := .dyn [] 0 size 0 0) (Nat.le_refl _) (fun _ _ => rfl) (fun o e => by cases e) ⟨rfl, by simp, .inl ⟨rfl, rfl⟩⟩
  exact ⟨⟨c.hd ++ [(0, .nilSl)], c.Fz, c.H⟩, .dy G.length 0, _, rfl, q1, q2, .dy (h := .nilSl) (by rw [← hs.len]; exact List.getElem?_concat_length) (Nat.le_refl _) (fun _ => rfl) rfl, k⟩

theorem appL_ok (hs : HSim c G) {s : LV} {a : AV} {size n : Nat} {new : List LV} {new' : List AV} (ha : AR c s a) (hn : ARs c new new') (hl : new.length = n * size) (h : appL G size s n new K) : OpRes P c G K (appendA c.H size a n new') := by
  have hnl := hn.length
  unfold appL at h
  split at h
  · -- nil
    cases ha
    unfold appendA
    cases hb : Nat.beq n 0 with
    | true =>
      have := Nat.eq_of_beq_eq_true hb
      subst this
      have : new = [] := List.eq_nil_of_length_eq_zero (by simpa using hl)
      subst this
      exact pushNil_ok hs h
    | false =>
      dsimp only [growA]
      exact newSlL_ok hs hn hl (fun r e => by cases e) h
  · rename_i p k
    split at h
    · rename_i l len esz ver st hg
      obtain ⟨hk0, ⟨rfl, hpos⟩, hlim, h⟩ := h
      have hpg : p < c.hd.length := by rw [hs.len]; exact (List.getElem?_eq_some_iff.1 hg).1
      cases ha with
      | @dy _ _ k' hh _ e hk haa hsl =>
        obtain ⟨r0, r1, r2⟩ := hs.obj p _ _ _ hg e
        have hha := haa (by omega)
        -- what is left to do where the object has its new handle
        have fin : ∀ {H' : Heap} {x' : AV}, c.H.next ≤ H'.next → (∀ o, o < c.H.next → idOf hh ≠ some o → H'.get o = c.H.get o) → (∀ o, idOf x' = some o → (idOf hh = some o ∨ c.H.next ≤ o) ∧ o < H'.next) → slish x' = true → fixd hh = false →
            (CxLe c ⟨c.hd.set p (k' + 1, x'), c.Fz, H'⟩ → ObR ⟨c.hd.set p (k' + 1, x'), c.Fz, H'⟩ (k' + 1) x' (.dyn (l ++ new) (len + n) esz (ver + 1) (st + 1))) → OpRes P c G K (.val x' H') := by
          intro H' x' h1 h2 h3 h4 h5 h6
          obtain ⟨q1, q2, _⟩ := hs.upd (k' := k' + 1) (x' := x') (ob' := .dyn (l ++ new) (len + n) esz (ver + 1) (st + 1)) (H' := H') hg rfl e h1 h2 h3 (Nat.le_succ _) (fun q => by omega) (fun q => by rw [h5] at q; cases q) (.inl (Nat.lt_succ_self _)) h6
          exact ⟨_, .dy p (ver + 1), _, rfl, q1, q2, .dy (k' := k' + 1) (h := x') (by dsimp only; rw [List.getElem?_set_self hpg]) (by omega) (fun _ => rfl) h4, h⟩
        have hcnt : (l ++ new).length = (len + n) * esz := by rw [List.length_append, r1, hl, Nat.add_mul]
        unfold appendA
        cases hb : Nat.beq n 0 with
        | true =>
          have hn0 := Nat.eq_of_beq_eq_true hb
          subst hn0
          have hnew : new = [] := List.eq_nil_of_length_eq_zero (by simpa using hl)
          subst hnew
          have hfix : fixd hh = false := by
            rcases r2 with ⟨r2, _⟩ | ⟨o, v, room, t, clen, l', r2, _⟩ <;> rw [r2] <;> rfl
          have hsh : slish hh = true := by rw [← hha]; exact hsl
          have key : OpRes P c G K (.val hh c.H) := by
            refine fin (Nat.le_refl _) (fun _ _ _ => rfl) (fun o e' => ⟨.inl e', hs.lt o ⟨p, _, _, _, hg, rfl, e, e'⟩⟩) hsh hfix (fun hle => ⟨by omega, hcnt, ?_⟩)
            simp only [List.append_nil, Nat.add_zero]
            rcases r2 with ⟨r2, r3⟩ | ⟨o, v, room, t, clen, l', r2, r3, r4, r5, r6, r7, r8⟩
            · exact .inl ⟨r2, r3⟩
            · exact .inr ⟨o, v, room, t, clen, l', r2, r3, r4, r5, r6.mono hle, r7, r8⟩
          rw [hha]
          rcases r2 with ⟨r2, r3⟩ | ⟨o, v, room, t, clen, l', r2, r3, r4, r5, r6, r7, r8⟩
          · rw [r2] at key ⊢; exact key
          · rw [r2] at key ⊢; exact key
        | false =>
          have hn0 : n ≠ 0 := fun q => by rw [q] at hb; cases hb
          rw [hha]
          rcases r2 with ⟨r2, r3⟩ | ⟨o, v, room, t, clen, l', r2, r3, r4, r5, r6, r7, r8⟩
          · -- nil so far
            subst r3
            have hlnil : l = [] := List.eq_nil_of_length_eq_zero (by simpa using r1)
            subst hlnil
            rw [r2]
            dsimp only [growA]
            obtain ⟨H', h1, h2, h3, h4⟩ := newObj_ok c new'
            rw [h1]
            dsimp only
            refine fin (by omega) (fun o ho _ => h3 o ho) (fun o e' => by cases e'; exact ⟨.inr (Nat.le_refl _), by omega⟩) rfl (by rw [r2]; rfl) (fun hle => ⟨by omega, hcnt, .inr ⟨c.H.next, 0, none, _, new'.length, new', ?_, h4, ?_, ?_, hn.mono hle, fun r q => (by cases q), fun _ => ?_⟩⟩)
            · simp
            · rw [Nat.zero_add]; omega
            · rw [Nat.zero_add, ← hl, hnl]; exact getCells_new new'
            · rw [Nat.zero_add]; omega
          · have hlt : o < c.H.next := hs.lt o ⟨p, _, _, _, hg, rfl, e, by rw [r2]; rfl⟩
            have hl' : l'.length = len * esz := by rw [← r6.length]; exact r1
            rw [r2]
            have hbe : (Nat.beq esz esz && Nat.ble len lim) = true := by rw [Nat.beq_refl, show Nat.ble len lim = true from Nat.ble_eq_true_of_le hlim]; rfl
            dsimp only
            rw [hbe]
            dsimp only
            have hid : idOf hh = some o := by rw [r2]; rfl
            have hfx : fixd hh = false := by rw [r2]; rfl
            have happ : getCells (ofListFrom new' (len * esz) t) 0 ((len + n) * esz) = some (l' ++ new') := by
              have := getCells_app (r := new') r5
              rwa [show len * esz + new'.length = (len + n) * esz from by rw [← hnl, hl, Nat.add_mul]] at this
            cases room with
            | some r =>
              obtain ⟨hcl, hlr⟩ := r7 r rfl
              dsimp only
              cases hfit : Nat.ble (Nat.add len n) r with
              | true =>
                have hfit' : len + n ≤ r := Nat.le_of_ble_eq_true hfit
                have hm : (len + n) * esz ≤ r * esz := Nat.mul_le_mul_right _ hfit'
                have hm2 : (len + n) * esz = len * esz + n * esz := Nat.add_mul _ _ _
                have hw : writeAt c.H o v (Nat.add 0 (Nat.mul len esz)) new' = some (c.H.put o (.cells (ofListFrom new' (len * esz) t) clen v false)) := by
                  unfold writeAt
                  rw [r3]
                  have e1 : Nat.add 0 (Nat.mul len esz) = len * esz := Nat.zero_add _
                  have hble : Nat.ble (Nat.add (len * esz) new'.length) clen = true := Nat.ble_eq_true_of_le (by show len * esz + new'.length ≤ clen; omega)
                  rw [e1]
                  simp only [Nat.beq_refl, hble]
                dsimp only
                rw [hw]
                dsimp only
                refine fin (by exact Nat.le_refl _) (fun o' _ hne => Heap.get_put_ne _ _ (fun q => hne (by rw [q]; exact hid))) (fun o' e' => by cases e'; exact ⟨.inl hid, hlt⟩) rfl hfx (fun hle => ⟨by omega, hcnt, .inr ⟨o, v, some r, _, clen, _, rfl, Heap.get_put_same _ _ _, by omega, happ, (r6.append hn).mono hle, fun r' q => by cases q; exact ⟨hcl, hfit'⟩, fun q => by cases q⟩⟩)
              | false =>
                have hr := readAt_of (i := 0) (n := len * esz) r3 r5 r4 (by omega)
                dsimp only
                rw [show Nat.mul len esz = len * esz from rfl, hr]
                dsimp only [growA]
                obtain ⟨H', h1, h2, h3, h4⟩ := newObj_ok c ((l'.drop 0).take (len * esz) ++ new')
                rw [h1]
                dsimp only
                have heq : (l'.drop 0).take (len * esz) = l' := by rw [List.drop_zero, List.take_of_length_le (by omega)]
                rw [heq] at h4
                have hsz : (l' ++ new').length = (len + n) * esz := by rw [List.length_append, hl', ← hnl, hl, Nat.add_mul]
                refine fin (by omega) (fun o' ho' _ => h3 o' ho') (fun o' e' => by cases e'; exact ⟨.inr (Nat.le_refl _), by omega⟩) rfl hfx (fun hle => ⟨by omega, hcnt, .inr ⟨c.H.next, 0, none, _, _, l' ++ new', rfl, h4, by omega, ?_, (r6.append hn).mono hle, fun r' q => (by cases q), fun _ => hsz⟩⟩)
                rw [← hsz]; exact getCells_new _
            | none =>
              have hcl := r8 rfl
              dsimp only
              rw [r3]
              dsimp only
              have hm2 : (len + n) * esz = len * esz + n * esz := Nat.add_mul _ _ _
              have hnpos : 0 < n * esz := Nat.mul_pos (by omega) hpos
              have hnf : Nat.ble (Nat.add 0 (Nat.mul (Nat.add len n) esz)) clen = false := by
                cases hq : Nat.ble (Nat.add 0 (Nat.mul (Nat.add len n) esz)) clen with
                | false => rfl
                | true =>
                  have : 0 + (len + n) * esz ≤ clen := Nat.le_of_ble_eq_true hq
                  omega
              have htip : Nat.beq (Nat.mul len esz) clen = true := by rw [hcl]; exact Nat.beq_refl _
              rw [Nat.beq_refl, hnf, htip, hcl]
              dsimp only
              have hsz : Nat.add (len * esz) new'.length = (len + n) * esz := by show len * esz + new'.length = _; rw [← hnl, hl, hm2]
              refine fin (by exact Nat.le_refl _) (fun o' _ hne => Heap.get_put_ne _ _ (fun q => hne (by rw [q]; exact hid))) (fun o' e' => by cases e'; exact ⟨.inl hid, hlt⟩) rfl hfx (fun hle => ⟨by omega, hcnt, .inr ⟨o, v + 1, none, _, _, _, rfl, Heap.get_put_same _ _ _, by rw [hsz]; exact Nat.le_refl _, happ, (r6.append hn).mono hle, fun r' q => (by cases q), fun _ => hsz⟩⟩)
    · exact h.elim
  · exact h.elim
end res
end Go.Sv
