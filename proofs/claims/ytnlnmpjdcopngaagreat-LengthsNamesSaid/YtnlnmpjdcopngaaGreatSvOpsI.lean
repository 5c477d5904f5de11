/- Each operation of the evaluator's against the model's: maps, ranges over texts, lengths. -/
import Derived.Test.YtnlnmpjdcopngaaGreatSvOpsH
import Derived.Laws.RangeString
import Derived.MapKept
namespace Go.Sv
open Go.RowKit (Below)

theorem keyT_spec {P : Program} {t : TypeId} {d : TypeDesc} (h : keyT P t = some d) : P.underlying t = some d ∧ (d = .bool ∨ (∃ k, d = .int k) ∨ d = .string) := by
  unfold keyT at h
  split at h
  · rename_i hu; cases h; exact ⟨hu, .inl rfl⟩
  · rename_i k hu; cases h; exact ⟨hu, .inr (.inl ⟨k, rfl⟩)⟩
  · rename_i hu; cases h; exact ⟨hu, .inr (.inr rfl)⟩
  · cases h
theorem run_checkKey {P : Program} {w : World} {t : TypeId} {d : TypeDesc} (h : keyT P t = some d) (e : Bool) (v : Value) : (Instr.checkKey e 10000 t v).run P w = .ok () w := by
  obtain ⟨hu, hd⟩ := keyT_spec h
  show (Instr.checkKey e (9999 + 1) t v).run P w = _
  unfold Instr.checkKey
  simp only [Sem.run_bind, run_und hu, Result.andThen_ok]
  rcases hd with rfl | ⟨k, rfl⟩ | rfl <;> rfl

theorem keyEq_now {C : CM} {d : TypeDesc} {a b : AV} {r : Bool} (h : keyEq d a b = some r) {u v : Value} (hu : VR C a u) (hv : VR C b v) :
    Instr.sameNow d u v = some r ∧ (r = true → Instr.sameBits 10000 v u = true) := by
  unfold keyEq at h
  split at h
  · split at h
    · rename_i hk
      have := kindEq_spec hk
      subst this
      cases h; cases hu; cases hv
      rename_i _ kk x y _
      refine ⟨by simp [Instr.sameNow, eqI_spec], fun e => ?_⟩
      rw [eqI_spec] at e
      have : x = y := by simpa using e
      subst this
      simp [Instr.sameBits]
    · cases h
  · cases h
    cases hu with
    | @str _ _ s h1 h2 =>
      cases hv with
      | @str _ _ s' h3 h4 =>
        subst h1 h2 h3 h4
        rw [← strEq_spec, ← beq_toListBytes]
        refine ⟨by simp [Instr.sameNow], fun e => ?_⟩
        have : s = s' := by
          have e' : s.data.toList = s'.data.toList := by rw [beq_toListBytes] at e; rw [← ByteArray.toList_eq, ← ByteArray.toList_eq]; simpa using e
          exact ByteArray.ext (Array.toList_inj.1 e')
        subst this
        simp only [Instr.sameBits]
        rw [beq_toListBytes]; simp
  · cases h; cases hu; cases hv
    rename_i x y
    refine ⟨by simp [Instr.sameNow], fun e => ?_⟩
    have : x = y := by simpa using e
    subst this
    simp [Instr.sameBits]
  · cases h

theorem findA_spec {C : CM} {d : TypeDesc} {k : AV} {u : Value} (hu : VR C k u) : ∀ {es : List (AV × AV × Nat)} {ces : List MapEntry} {r : Option AV} (i : Nat), findA d k es = some r → MR C es ces →
    match r with
    | none => Instr.findNow d u ces i = some none
    | some a => ∃ j v, Instr.findNow d u ces i = some (some (j, v)) ∧ VR C a v
  | [], [], r, i, h, .nil => by cases h; rfl
  | (k', v', b) :: l, e :: _, r, i, h, .cons hk hv hb hm => by
    unfold findA at h
    split at h
    · rename_i hq
      cases h
      exact ⟨i, e.val, by simp [Instr.findNow, (keyEq_now hq hu hk).1], hv⟩
    · rename_i hq
      have := findA_spec hu (i + 1) h hm
      cases r with
      | none => simpa [Instr.findNow, (keyEq_now hq hu hk).1] using this
      | some a =>
        obtain ⟨j, v, q1, q2⟩ := this
        exact ⟨j, v, by simpa [Instr.findNow, (keyEq_now hq hu hk).1] using q1, q2⟩
    · cases h

theorem run_findKey {P : Program} {w : World} {t : TypeId} {d : TypeDesc} (hu : P.underlying t = some d) {k : Value} {es : List MapEntry} {r : Option (Nat × Value)} (h : Instr.findNow d k es 0 = some r) :
    (Instr.findKey t k es).run P w = .ok r w := by
  simp [Instr.findKey, run_und hu, h]

theorem lookup_sound (P : Program) (t : TypeId) (x ix : Operand) (ok : Bool) : Sound P (lookupF P t x ix ok) (fun ρ => do pure (.value (← Instr.lookup t (ρ x) (ρ ix) ok))) := by
  unfold lookupF
  split
  · rename_i key elem hu
    split
    · rename_i d z hd hz
      refine binary2_sound fun w0 C H w ρ a b hR ha hb => ?_
      split
      · exact trivial
      · rename_i es hes
        obtain ⟨hud, _⟩ := keyT_spec hd
        obtain ⟨zv, hz1, hz2⟩ := run_zeroV (w := w) hz
        have hzr := absV_spec (C := C) hz2
        -- the entries
        have hent : ∃ ces : Array MapEntry, MR C es ces.toList ∧ ((ρ x = .map none ∧ ces = #[]) ∨ ∃ b ck, ρ x = .map (some b) ∧ w.heap[b]? = some (.map ces ck)) := by
          unfold mapOf at hes
          split at hes
          · cases hes
            generalize ρ x = px at ha
            cases ha
            exact ⟨#[], .nil, .inl ⟨rfl, rfl⟩⟩
          · rename_i o
            split at hes
            · rename_i es' ck hg
              cases hes
              generalize ρ x = px at ha
              cases ha with
              | map hL =>
                obtain ⟨_, ces, q1, q2⟩ := hR.obj o _ (hR.fresh _ _ _ hL) hg _ hL
                exact ⟨ces, q2, .inr ⟨_, _, rfl, q1⟩⟩
            · cases hes
          · cases hes
        obtain ⟨ces, hm, hget⟩ := hent
        split
        · rename_i v hf
          obtain ⟨j, u, q1, q2⟩ := findA_spec hb 0 hf hm
          have hrun : (Instr.lookup t (ρ x) (ρ ix) ok).run P w = .ok (if ok then .tuple #[u, .bool true] else u) w := by
            unfold Instr.lookup
            rcases hget with ⟨hx, rfl⟩ | ⟨r, ck, hx, hh⟩
            · simp only [Sem.run_bind, run_und hu, Result.andThen_ok, hx, run_checkKey hd, run_findKey hud q1, Sem.run_pure]
            · have hg : (getObj r).run P w = .ok (.map ces ck) w := by simp [getObj, Sem.run, hh]
              simp only [Sem.run_bind, run_und hu, Result.andThen_ok, hx, hg, run_checkKey hd, run_findKey hud q1, Sem.run_pure]
          refine val_same hR (x := if ok then .tuple #[u, .bool true] else u) ?_ (by simp only [Sem.run_bind, hrun, Result.andThen_ok, Sem.run_pure])
          cases ok with
          | true => exact .tup (.cons q2 (.cons (.bool _) .nil))
          | false => exact q2
        · rename_i hf
          have q1 := findA_spec hb 0 hf hm
          have hrun : (Instr.lookup t (ρ x) (ρ ix) ok).run P w = .ok (if ok then .tuple #[zv, .bool false] else zv) w := by
            unfold Instr.lookup
            rcases hget with ⟨hx, rfl⟩ | ⟨r, ck, hx, hh⟩
            · simp only [Sem.run_bind, run_und hu, Result.andThen_ok, hx, run_checkKey hd, run_findKey hud q1, Sem.run_pure, hz1]
            · have hg : (getObj r).run P w = .ok (.map ces ck) w := by simp [getObj, Sem.run, hh]
              simp only [Sem.run_bind, run_und hu, Result.andThen_ok, hx, hg, run_checkKey hd, run_findKey hud q1, Sem.run_pure, hz1]
          refine val_same hR (x := if ok then .tuple #[zv, .bool false] else zv) ?_ (by simp only [Sem.run_bind, hrun, Result.andThen_ok, Sem.run_pure])
          cases ok with
          | true => exact .tup (.cons hzr (.cons (.bool _) .nil))
          | false => exact hzr
        · exact trivial
    · exact stuck_sound P _
  · exact stuck_sound P _

/-! ### Objects that are no cells -/
theorem putObj_heap_ne (w : World) {r k : Nat} (x : Obj) (h : k ≠ r) : ({ w with heap := w.heap.setIfInBounds r x } : World).heap[k]? = w.heap[k]? := by
  show (w.heap.setIfInBounds r x)[k]? = _
  rw [Array.getElem?_setIfInBounds_ne (by omega)]
theorem putObj_heap_same (w : World) {r : Nat} (x : Obj) (h : r < w.heap.size) : ({ w with heap := w.heap.setIfInBounds r x } : World).heap[r]? = some x := by
  show (w.heap.setIfInBounds r x)[r]? = _
  simp [h]
theorem Rel.putObj {w0 : World} {C : CM} {H : Heap} {w : World} (h : Rel w0 C H w) {o v : Nat} {L : Loc} (hL : C o v = some L) (hB : w0.heap.size ≤ L.b) (ob : AObj) (x : Obj)
    (hob : ObjR w0.heap.size C { w with heap := w.heap.setIfInBounds L.b x } o ob) (htop : ∀ c len ver ro, ob ≠ .cells c len ver ro) : Rel w0 C (H.put o ob) { w with heap := w.heap.setIfInBounds L.b x } := by
  refine h.put (h.fresh _ _ _ hL) ob (h.low.trans ⟨rfl, rfl, rfl, by simp, fun k hk => putObj_heap_ne w x (by omega)⟩) (by simp) ?_ hob (fun c len ver ro e => absurd e (htop c len ver ro))
  intro o' v' L' hne hL'
  refine putObj_heap_ne w x (fun e => hne ?_)
  exact (h.excl _ _ _ _ _ _ hL hL' e.symm hB).symm

theorem MR.length {C : CM} : ∀ {es : List (AV × AV × Nat)} {ces : List MapEntry}, MR C es ces → es.length = ces.length
  | _, _, .nil => rfl
  | _, _, .cons _ _ _ h => by simp [MR.length h]
theorem findNow_shift {d : TypeDesc} {u : Value} : ∀ {ces : List MapEntry} {i j : Nat} {v : Value}, Instr.findNow d u ces i = some (some (j, v)) → i ≤ j ∧ j - i < ces.length ∧ ∃ e, ces[j - i]? = some e ∧ e.val = v
  | [], i, j, v, h => by simp [Instr.findNow] at h
  | e :: ces, i, j, v, h => by
    unfold Instr.findNow at h
    split at h
    · cases h; exact ⟨Nat.le_refl _, by simp, e, by simp, rfl⟩
    · obtain ⟨h1, h2, e', h3, h4⟩ := findNow_shift h
      refine ⟨by omega, by simp; omega, e', ?_, h4⟩
      rw [show j - i = (j - (i + 1)) + 1 from by omega, List.getElem?_cons_succ]; exact h3
    · cases h

/-- A map's update: where the key is, or behind all. -/
theorem setMapA_spec {C : CM} {d : TypeDesc} {k v : AV} {u x : Value} (hu : VR C k u) (hx : VR C v x) {ck : Nat} : ∀ {es es' : List (AV × AV × Nat)} {ces : List MapEntry} {n : Bool} (i : Nat), setMapA d k v ck es = some (es', n) → MR C es ces →
    match n with
    | true => Instr.findNow d u ces i = some none ∧ MR C es' (ces ++ [{ key := u, val := x, born := ck }])
    | false => ∃ j e y, Instr.findNow d u ces i = some (some (j + i, y)) ∧ ces[j]? = some e ∧ Instr.sameBits 10000 e.key u = true ∧ MR C es' (ces.modify j fun e => { e with key := u, val := x })
  | [], es', [], n, i, h, .nil => by
    cases h
    exact ⟨rfl, .cons hu hx rfl .nil⟩
  | (k', v', b) :: l, es', e :: r, n, i, h, .cons hk hv hb hm => by
    unfold setMapA at h
    split at h
    · rename_i hq
      cases h
      obtain ⟨q1, q2⟩ := keyEq_now hq hu hk
      exact ⟨0, e, e.val, by simp [Instr.findNow, q1], rfl, q2 rfl, by simpa using MR.cons (e := { e with key := u, val := x }) hu hx hb hm⟩
    · rename_i hq
      obtain ⟨q1, _⟩ := keyEq_now hq hu hk
      split at h
      · rename_i r' n' hs
        cases h
        have := setMapA_spec hu hx (i + 1) hs hm
        cases n with
        | true => exact ⟨by simpa [Instr.findNow, q1] using this.1, .cons hk hv hb this.2⟩
        | false =>
          obtain ⟨j, e', y, p1, p2, p3, p4⟩ := this
          refine ⟨j + 1, e', y, ?_, by simpa using p2, p3, by simpa using MR.cons hk hv hb p4⟩
          rw [show j + 1 + i = j + (i + 1) from by omega]
          simpa [Instr.findNow, q1] using p1
      · cases h
    · cases h

theorem mapUpdate_sound (P : Program) (t : TypeId) (m k x : Operand) : Sound P (mapUpdateF P t m k x) (fun ρ => do Instr.mapUpdate t (ρ m) (ρ k) (ρ x); pure .skip) := by
  unfold mapUpdateF
  split
  · rename_i key elem hu
    split
    · rename_i d hd
      obtain ⟨hud, _⟩ := keyT_spec hd
      intro w0 C H w E ρ hR hρ
      dsimp only
      split
      · rename_i o ka va hm hk hx
        have hm' := hρ _ _ hm
        have hk' := hρ _ _ hk
        have hx' := hρ _ _ hx
        split
        · rename_i es ck hg
          generalize hmv : ρ m = pm at hm'
          cases hm' with
          | map hL =>
            rename_i L
            obtain ⟨hB, ces, q1, q2⟩ := hR.obj o _ (hR.fresh _ _ _ hL) hg _ hL
            have hlt := hR.lt _ _ _ hL
            have hget : (getObj L.b).run P w = .ok (.map ces ck) w := by simp [getObj, Sem.run, q1]
            have hset : ∀ y, (setObj L.b y).run P w = .ok () { w with heap := w.heap.setIfInBounds L.b y } := by intro y; simp [setObj, Sem.run, q1]
            split
            · rename_i es' hs
              obtain ⟨p1, p2⟩ := setMapA_spec hk' hx' 0 hs q2
              refine ⟨C, { w with heap := w.heap.setIfInBounds L.b (.map (ces.push { key := ρ k, val := ρ x, born := ck }) (ck + 1)) }, undef, CM.le_refl C, hR.putObj hL hB _ _ ?_ (fun _ _ _ _ e => by cases e), .tup .nil, .inr ⟨?_, rfl⟩⟩
              · intro L' hL'
                rw [hL] at hL'; cases hL'
                exact ⟨hB, _, putObj_heap_same w _ hlt, by rw [Array.toList_push]; exact p2⟩
              · simp only [Instr.mapUpdate, Sem.run_bind, run_und hu, Result.andThen_ok, hget, run_checkKey hd, run_findKey hud p1, hset, Sem.run_pure]
            · rename_i es' hs
              obtain ⟨j, e, y, p1, p2, p3, p4⟩ := setMapA_spec hk' hx' 0 hs q2
              have p2' : ces[j]? = some e := by simpa using p2
              refine ⟨C, { w with heap := w.heap.setIfInBounds L.b (.map (ces.modify j fun e => { e with key := ρ k, val := ρ x }) ck) }, undef, CM.le_refl C, hR.putObj hL hB _ _ ?_ (fun _ _ _ _ e => by cases e), .tup .nil, .inr ⟨?_, rfl⟩⟩
              · intro L' hL'
                rw [hL] at hL'; cases hL'
                exact ⟨hB, _, putObj_heap_same w _ hlt, by rw [Array.toList_modify]; exact p4⟩
              · have hkeep : (Instr.keyThatStays e.key (ρ k)).run P w = .ok (ρ k) w := by simp [Instr.keyThatStays, p3]
                simp only [Instr.mapUpdate, Sem.run_bind, run_und hu, Result.andThen_ok, hget, run_checkKey hd, run_findKey hud p1, Nat.add_zero, p2', Option.map_some, Option.getD_some, hkeep, hset, Sem.run_pure]
            · exact trivial
        · exact trivial
      · exact trivial
    · exact stuck_sound P _
  · exact stuck_sound P _

/-! ### Ranges over texts -/
theorem range_sound (P : Program) (t : TypeId) (x : Operand) : Sound P (rangeF P t x) (fun ρ => do pure (.value (← Instr.range t (ρ x)))) := by
  unfold rangeF
  split
  · rename_i hu
    refine unary1_sound fun w0 C H w ρ a hR ha => ?_
    split
    · rename_i len n
      generalize ρ x = px at ha
      cases ha with
      | @str _ _ s h1 h2 =>
        obtain ⟨q1, q2⟩ := hR.push (.iter len n 0) (.stringIter s 0) 0 0 (fun L hL => by
          rw [CM.ext_same] at hL; cases hL
          exact ⟨hR.low.size, rfl, s, heap_alloc_new _ _, h1, h2⟩)
        refine ⟨_, _, .pointer (some ⟨w.heap.size, 0, none⟩), q2, q1, by simpa using VR.ptr (i := 0) (CM.ext_same C H.next 0 ⟨w.heap.size, 0, 0, 0⟩), .inl ?_⟩
        simp only [Instr.range, Sem.run_bind, run_und hu, Sem.run_pure, Result.andThen_ok, run_newObj]
        rfl
    · exact trivial
  · exact stuck_sound P _

theorem next_sound (P : Program) (x : Operand) (isString : Bool) (ty : TypeId) : Sound P (nextF x isString) (fun ρ => do pure (.value (← Instr.next (ρ x) isString ty))) := by
  unfold nextF
  split
  · rename_i hs
    subst hs
    refine unary1_sound fun w0 C H w ρ a hR ha => ?_
    split
    · rename_i o
      split
      · rename_i len n pos hg
        generalize ρ x = px at ha
        cases ha with
        | @ptr _ _ _ L hL =>
          obtain ⟨hB, hd0, s, q1, q2, q3⟩ := hR.obj o _ (hR.fresh _ _ _ hL) hg _ hL
          have hlt := hR.lt _ _ _ hL
          have hget : (getObj L.b).run P w = .ok (.stringIter s pos) w := by simp [getObj, Sem.run, q1]
          have hset : ∀ y, (setObj L.b y).run P w = .ok () { w with heap := w.heap.setIfInBounds L.b y } := by intro y; simp [setObj, Sem.run, q1]
          have haddr : (⟨L.b, L.d + 0, none⟩ : Addr) = ⟨L.b, 0, none⟩ := by rw [hd0]
          rw [haddr]
          split
          · rename_i hp
            have hp' : pos < len := by rw [nblt] at hp; simpa using hp
            have hp'' : pos < s.size := by have : s.data.toList.length = s.size := rfl; omega
            split
            · rename_i hc
              have hgl : s.data.toList[pos]? = some s[pos] := by
                rw [List.getElem?_eq_getElem (by rw [q2]; exact hp')]; rfl
              have hpk := packL_get hgl
              rw [q3] at hpk
              have hcv : Nat.mod (Nat.div n (Nat.pow 256 pos)) 256 = s[pos].toNat := hpk
              rw [hcv] at hc ⊢
              have hc' : s[pos].toNat < 128 := by rw [nblt] at hc; simpa using hc
              have hdec := decode_ascii s pos hp'' hc'
              refine ⟨C, { w with heap := w.heap.setIfInBounds L.b (.stringIter s (pos + 1)) }, .tuple #[.bool true, goInt pos, .int .i32 (s[pos].toNat : Int)], CM.le_refl C,
                hR.putObj hL hB _ _ ?_ (fun _ _ _ _ e => by cases e), .tup (.cons (.bool _) (.cons (.int _ _) (.cons (.int _ _) .nil))), .inl ?_⟩
              · intro L' hL'
                rw [hL] at hL'; cases hL'
                exact ⟨hB, hd0, s, putObj_heap_same w _ hlt, q2, q3⟩
              · simp only [Instr.next, Sem.run_bind, hget, Result.andThen_ok, if_pos hp'', hdec, hset, Sem.run_pure]
            · exact trivial
          · rename_i hp
            have hp' : ¬ pos < len := by rw [nblt] at hp; simpa using hp
            have hp'' : ¬ pos < s.size := by have : s.data.toList.length = s.size := rfl; omega
            refine val_same hR (x := .tuple #[.bool false]) (.tup (.cons (.bool _) .nil)) ?_
            simp only [Instr.next, Sem.run_bind, hget, Result.andThen_ok, if_neg hp'', Sem.run_pure]
      · exact trivial
    · exact trivial
  · exact stuck_sound P _

end Go.Sv
