/- Each operation of the evaluator's against the model's: the builtins. -/
import Derived.Test.YtnlnmpjdcopngaaGreatSvOpsJ
namespace Go.Sv
open Go.RowKit (Below)

theorem cell_of_heap {w w' : World} (h : w'.heap = w.heap) (a : Addr) : w'.cell? a = w.cell? a := by simp [World.cell?, h]

theorem takeA_spec {P : Program} {w0 : World} {C : CM} {H : Heap} {w : World} (hR : Rel w0 C H w) {size : Nat} {b : AV} {x : Value} (hb : VR C b x) {n : Nat} {l : List AV} (h : takeA H size b = some (n, l)) :
    ∃ vs : List Value, VRs C l vs ∧ (∀ a ∈ l, a.one = true) ∧ l.length = n * size ∧ (Builtin.lenOf x).run P w = .ok n w ∧
      ∀ m, m ≤ n → ∀ w', w'.heap = w.heap → (Builtin.firstCells size m x).run P w' = .ok (vs.take (m * size)).toArray w' := by
  unfold takeA at h
  split at h
  · cases h; cases hb
    exact ⟨[], .nil, by simp, by simp, rfl, fun m hm w' _ => by simp [Builtin.firstCells]⟩
  · cases h
    cases hb with
    | @emp a cap =>
      refine ⟨[], .nil, by simp, by simp, rfl, fun m hm w' _ => ?_⟩
      have : m = 0 := by omega
      subst this
      simp only [Builtin.firstCells, Nat.zero_mul]
      rw [run_loadCells P w' a 0 [] rfl (fun j hj => by omega)]
      rfl
  · rename_i o v i len esz room
    split at h
    · rename_i he
      have he' : esz = size := Nat.eq_of_beq_eq_true he
      subst he'
      split at h
      · rename_i l' hl
        cases h
        cases hb with
        | @sl _ _ _ _ _ _ L cap hL =>
          obtain ⟨vs, _, h2, h3, h4, _, h6⟩ := hR.read P hl hL
          refine ⟨vs, h2, h3, h4, rfl, fun m hm w' hw => ?_⟩
          have hms : m * esz ≤ n * esz := Nat.mul_le_mul_right _ hm
          have h4' : vs.length = n * esz := by have e1 := h2.length; have e2 : l.length = n * esz := h4; omega
          simp only [Builtin.firstCells]
          refine run_loadCells P w' _ _ _ (by simp; omega) (fun j hj => ?_)
          rw [add_addr, cell_of_heap hw, h6 j (show j < Nat.mul n esz by show j < n * esz; omega), List.getElem?_take_of_lt hj]
      · cases h
    · cases h
  · rename_i len n'
    split at h
    · rename_i hs1
      cases h
      have hs1' : size = 1 := Nat.eq_of_beq_eq_true hs1
      subst hs1'
      cases hb with
      | @str _ _ s h1 h2 =>
        subst h1 h2
        rw [unpack_pack]
        refine ⟨s.data.toList.map fun b => Value.int .u8 (b.toNat : Int), ?_, ?_, by simp, rfl, fun m hm w' _ => ?_⟩
        · generalize s.data.toList = q
          induction q with
          | nil => exact .nil
          | cons b q ih => exact .cons (.int _ _) ih
        · intro a ha; simp only [List.mem_map] at ha; obtain ⟨b, _, rfl⟩ := ha; rfl
        · simp only [Builtin.firstCells, Sem.run_pure]
          congr 1
          apply Array.toList_inj.1
          rw [Array.toList_map, Lib.extract_data]
          simp
    · cases h
  · cases h

theorem Sound.congr {P : Program} {f : OpF} {nx nx' : (Operand → Value) → Sem Next} (h : ∀ ρ, nx ρ = nx' ρ) (s : Sound P f nx) : Sound P f nx' := fun w0 C H w E ρ hR hρ => by rw [← h ρ]; exact s w0 C H w E ρ hR hρ

theorem arr2 {α : Type} {a : Array α} {x y : α} (h : a.toList = [x, y]) : a = #[x, y] := Array.toList_inj.1 h
theorem arr1 {α : Type} {a : Array α} {x : α} (h : a.toList = [x]) : a = #[x] := Array.toList_inj.1 h

theorem append_sound (P : Program) (ts : Array TypeId) (args : Array Operand) (ty : TypeId) : Sound P (appendF P ts args) (fun ρ => do pure (.value (← Builtin.append_ ts ty (args.map ρ)))) := by
  unfold appendF
  split
  · rename_i st xt s x hts hargs
    have ets := arr2 hts
    have eargs := arr2 hargs
    subst ets eargs
    refine Sound.congr (nx := fun ρ => do pure (.value (← Builtin.append_ #[st, xt] ty #[ρ s, ρ x]))) (fun ρ => by simp) ?_
    have key : ∀ elem, P.underlying st = some (.slice elem) → ∀ d, P.underlying xt = some d → (d = .string ∨ ∃ e, d = .slice e) → Sound P (appendG P elem s x) (fun ρ => do pure (.value (← Builtin.append_ #[st, xt] ty #[ρ s, ρ x]))) := by
      intro elem hu d hd hdd
      unfold appendG
      split
      · rename_i i z hi hz
        split
        · rename_i hc
          obtain ⟨hpos, hby⟩ := hc
          refine binary2_sound fun w0 C H w ρ a b hR ha hb => ?_
          split
          · rename_i n l ht
            split
            · rename_i hn
              have hn' : n ≤ 1048576 := Nat.le_of_ble_eq_true hn
              obtain ⟨vs, h1, h2, h3, h4, h5⟩ := takeA_spec (P := P) hR hb ht
              have hvl : vs.length = n * i.size := by have := h1.length; omega
              refine append_ok hR hu hi hpos hby hz ha (news := vs.toArray) ⟨d, hd, .inl ⟨hdd, h4, fun w' hw => ?_⟩⟩ hn' (by simpa using h1) h2 h3
              rw [h5 n (Nat.le_refl _) w' hw, List.take_of_length_le (by omega)]
            · exact trivial
          · exact trivial
        · exact stuck_sound P _
      · exact stuck_sound P _
    split
    · rename_i elem k hu hx
      unfold appendZ
      split
      · rename_i i z hi hz
        split
        · rename_i hc
          obtain ⟨hpos, hby⟩ := hc
          refine binary2_sound fun w0 C H w ρ a b hR ha hb => ?_
          split
          · rename_i n
            split
            · rename_i hn
              have hn' : n ≤ 1048576 := Nat.le_of_ble_eq_true hn
              obtain ⟨zv, j, hz1, hz2, hz3, hz4⟩ := run_zeroT' hz
              rw [hi] at hz3; cases hz3
              obtain ⟨k1, k2⟩ := absL_spec (C := C) hz2
              have hzs : zv.cells.size = i.size := by have := k1.length; simp at this; omega
              have hcells : VRs C (repeatL z n) (Builtin.zeroCells zv.cells n).toList := by
                unfold Builtin.zeroCells; rw [zeros_eq]; exact repeatL_rel k1 n
              generalize ρ x = px at hb
              cases hb
              exact append_ok hR hu hi hpos hby hz ha (news := Builtin.zeroCells zv.cells n) ⟨_, hx, .inr ⟨⟨_, rfl⟩, rfl, hn', hpos, zv, hz1, ⟨i, hi, hby⟩, rfl, hzs⟩⟩ hn' hcells (repeatL_one k2 n) (by rw [repeatL_length, hz4])
            · exact trivial
          · exact trivial
        · exact stuck_sound P _
      · exact stuck_sound P _
    · rename_i elem e hu hx; exact key elem hu _ hx (.inr ⟨e, rfl⟩)
    · rename_i elem hu hx; exact key elem hu _ hx (.inl rfl)
    · exact stuck_sound P _
  · exact stuck_sound P _

theorem copy_sound (P : Program) (ts : Array TypeId) (args : Array Operand) (ty : TypeId) : Sound P (copyF P ts args) (fun ρ => do pure (.value (← Builtin.copy_ ts ty (args.map ρ)))) := by
  unfold copyF
  split
  · rename_i st xt s x hts hargs
    have ets := arr2 hts
    have eargs := arr2 hargs
    subst ets eargs
    refine Sound.congr (nx := fun ρ => do pure (.value (← Builtin.copy_ #[st, xt] ty #[ρ s, ρ x]))) (fun ρ => by simp) ?_
    split
    · rename_i elem hu
      split
      · exact stuck_sound P _
      · rename_i size hs
        split
        · rename_i hpos
          refine binary2_sound fun w0 C H w ρ a b hR ha hb => ?_
          split
          · rename_i n l ht
            obtain ⟨vs, h1, h2, h3, h4, h5⟩ := takeA_spec (P := P) hR hb ht
            have hvl : vs.length = n * size := by have := h1.length; omega
            split
            · generalize ρ s = ps at ha
              cases ha
              refine val_same hR (x := .int .i64 0) (.int _ _) ?_
              have hf := h5 0 (Nat.zero_le _) w rfl
              have e0 : Nat.min n 0 = 0 := Nat.min_zero n
              unfold Builtin.copy_
              simp only [List.getElem?_toArray, List.getElem?_cons_zero, List.getElem?_cons_succ, Sem.run_bind, run_und hu, Result.andThen_ok, h4, run_size hs, e0, hf, Sem.run_pure]
              rfl
            · generalize ρ s = ps at ha
              cases ha with
              | @emp ad cap =>
                refine val_same hR (x := .int .i64 0) (.int _ _) ?_
                have hf := h5 0 (Nat.zero_le _) w rfl
                have e0 : Nat.min n 0 = 0 := Nat.min_zero n
                unfold Builtin.copy_
                simp only [List.getElem?_toArray, List.getElem?_cons_zero, List.getElem?_cons_succ, Sem.run_bind, run_und hu, Result.andThen_ok, h4, run_size hs, e0, hf, Sem.run_pure]
                simp [storeCells, goInt]
            · rename_i o v i len esz room
              split
              · rename_i he
                have he' : esz = size := Nat.eq_of_beq_eq_true he
                subst he'
                split
                · rename_i H' hw
                  generalize ρ s = ps at ha
                  cases ha with
                  | @sl _ _ _ _ _ _ L cap hL q1 q2 q3 =>
                    have hm : minN n len = Nat.min n len := minN_spec n len
                    have hf := h5 (Nat.min n len) (Nat.min_le_left _ _) w rfl
                    obtain ⟨w', r1, r2⟩ := hR.write P hw hL (h1.take _) (fun a ha => h2 a (List.mem_of_mem_take ha))
                    rw [hm] at r1 ⊢
                    refine ⟨C, w', .int .i64 (Int.ofNat (Nat.min n len)), CM.le_refl C, r2, .int _ _, .inl ?_⟩
                    unfold Builtin.copy_
                    have r1' : (storeCells ⟨L.b, L.d + i, none⟩ (vs.take (Nat.min n len * esz))).run P w = .ok () w' := r1
                    simp only [List.getElem?_toArray, List.getElem?_cons_zero, List.getElem?_cons_succ, Sem.run_bind, run_und hu, Result.andThen_ok, h4, run_size hs, hf, Sem.run_pure, r1']
                    rfl
                · exact trivial
              · exact trivial
            · exact trivial
          · exact trivial
        · exact stuck_sound P _
    · exact stuck_sound P _
  · exact stuck_sound P _

theorem clear_sound (P : Program) (ts : Array TypeId) (args : Array Operand) (ty : TypeId) : Sound P (clearF P ts args) (fun ρ => do pure (.value (← Builtin.clear_ ts ty (args.map ρ)))) := by
  unfold clearF
  split
  · rename_i st x hts hargs
    have ets := arr1 hts
    have eargs := arr1 hargs
    subst ets eargs
    refine Sound.congr (nx := fun ρ => do pure (.value (← Builtin.clear_ #[st] ty #[ρ x]))) (fun ρ => by simp) ?_
    split
    · rename_i elem hu
      split
      · rename_i size z hs hz
        split
        · rename_i hpos
          refine unary1_sound fun w0 C H w ρ a hR ha => ?_
          split
          · generalize ρ x = px at ha
            cases ha
            refine val_same hR (x := .tuple #[]) (.tup .nil) ?_
            simp [Builtin.clear_, run_und hu]
          · generalize ρ x = px at ha
            cases ha with
            | @emp ad cap =>
              refine val_same hR (x := .tuple #[]) (.tup .nil) ?_
              simp [Builtin.clear_, run_und hu]
          · rename_i o v i len esz room
            split
            · rename_i he
              have he' : esz = size := Nat.eq_of_beq_eq_true he
              subst he'
              split
              · rename_i H' hw
                generalize ρ x = px at ha
                cases ha with
                | @sl _ _ _ _ _ _ L cap hL q1 q2 q3 =>
                  obtain ⟨zv, j, hz1, hz2, hz3, hz4⟩ := run_zeroT' hz
                  obtain ⟨k1, k2⟩ := absL_spec (C := C) hz2
                  obtain ⟨w', r1, r2⟩ := hR.write P hw hL (repeatL_rel k1 len) (repeatL_one k2 len)
                  by_cases hl0 : len = 0
                  · subst hl0
                    have : w' = w := by
                      have : (storeCells ⟨L.b, L.d + i, none⟩ (repV zv.cells.toList 0)).run P w = .ok () w := rfl
                      rw [this] at r1; cases r1; rfl
                    subst this
                    exact ⟨C, w', .tuple #[], CM.le_refl C, r2, .tup .nil, .inl (by simp [Builtin.clear_, run_und hu])⟩
                  · refine ⟨C, w', .tuple #[], CM.le_refl C, r2, .tup .nil, .inl ?_⟩
                    unfold Builtin.clear_
                    have hzc : (Builtin.zeroCells zv.cells len).toList = repV zv.cells.toList len := by unfold Builtin.zeroCells; exact zeros_eq _ _
                    obtain ⟨len', rfl⟩ : ∃ k, len = k + 1 := ⟨len - 1, by omega⟩
                    simp only [List.getElem?_toArray, List.getElem?_cons_zero, Sem.run_bind, run_und hu, Result.andThen_ok, hz1, Sem.run_pure, hzc, r1]
              · exact trivial
            · exact trivial
          · exact trivial
        · exact stuck_sound P _
      · exact stuck_sound P _
    · exact stuck_sound P _
  · exact stuck_sound P _

theorem len_sound (P : Program) (t ty : TypeId) (x : Operand) : Sound P (lenF P t x) (fun ρ => do pure (.value (← Builtin.len_ #[t] ty #[ρ x]))) := by
  unfold lenF
  split
  · rename_i hu
    refine unary1_sound fun w0 C H w ρ a hR ha => ?_
    split
    · generalize ρ x = px at ha
      cases ha with
      | @str _ _ s h1 h2 =>
        subst h1 h2
        exact val_same hR (x := .int .i64 (Int.ofNat s.size)) (.int _ _) (by simp [Builtin.len_, run_und hu, goInt])
    · exact trivial
  · rename_i e hu
    refine unary1_sound fun w0 C H w ρ a hR ha => ?_
    split
    · rename_i o v i len esz room
      generalize ρ x = px at ha
      cases ha with
      | sl => exact val_same hR (x := .int .i64 (Int.ofNat len)) (.int _ _) (by simp [Builtin.len_, run_und hu, goInt])
    · generalize ρ x = px at ha
      cases ha
      exact val_same hR (x := .int .i64 0) (.int _ _) (by simp [Builtin.len_, run_und hu, goInt])
    · generalize ρ x = px at ha
      cases ha
      exact val_same hR (x := .int .i64 0) (.int _ _) (by simp [Builtin.len_, run_und hu, goInt])
    · exact trivial
  · rename_i k e hu
    refine unary1_sound fun w0 C H w ρ a hR ha => ?_
    split
    · generalize ρ x = px at ha
      cases ha
      exact val_same hR (x := .int .i64 0) (.int _ _) (by simp [Builtin.len_, run_und hu, goInt])
    · rename_i o
      split
      · rename_i es ck hg
        generalize ρ x = px at ha
        cases ha with
        | @map _ L hL =>
          obtain ⟨_, ces, q1, q2⟩ := hR.obj o _ (hR.fresh _ _ _ hL) hg _ hL
          have hlen : es.length = ces.size := by have := q2.length; simpa using this
          have hget : (getObj L.b).run P w = .ok (.map ces ck) w := by simp [getObj, Sem.run, q1]
          exact val_same hR (x := .int .i64 (Int.ofNat es.length)) (.int _ _) (by simp [Builtin.len_, run_und hu, hget, goInt, hlen])
      · exact trivial
    · exact trivial
  · rename_i n e hu
    refine unary1_sound fun w0 C H w ρ a hR ha => ?_
    exact val_same hR (x := .int .i64 (Int.ofNat n)) (.int _ _) (by simp [Builtin.len_, run_und hu, goInt])
  · exact stuck_sound P _

theorem cap_sound (P : Program) (t ty : TypeId) (x : Operand) : Sound P (capF P t x) (fun ρ => do pure (.value (← Builtin.cap_ #[t] ty #[ρ x]))) := by
  unfold capF
  split
  · rename_i e hu
    refine unary1_sound fun w0 C H w ρ a hR ha => ?_
    split
    · generalize ρ x = px at ha
      cases ha
      exact val_same hR (x := .int .i64 0) (.int _ _) (by simp [Builtin.cap_, run_und hu, goInt])
    · rename_i r
      generalize ρ x = px at ha
      cases ha with
      | sl _ _ _ _ h4 =>
        obtain ⟨h5, _⟩ := h4 r rfl
        subst h5
        exact val_same hR (.int .i64 _) (by simp [Builtin.cap_, run_und hu, goInt])
    · exact trivial
  · exact stuck_sound P _

theorem maxA_spec {P : Program} {w : World} {C : CM} {mx : Bool} {a b r : AV} (h : maxA mx a b = some r) {u v : Value} (hu : VR C a u) (hv : VR C b v) :
    ∃ z, (if mx then Builtin.max2 u v else Builtin.min2 u v).run P w = .ok z w ∧ VR C r z := by
  unfold maxA at h
  split at h
  · rename_i k x k' y
    split at h
    · rename_i hk
      have := kindEq_spec hk
      subst this
      cases hu; cases hv
      split at h
      · split at h
        · rename_i hl
          rw [ltI_spec] at hl
          cases h
          refine ⟨.int k y, ?_, .int _ _⟩
          have : y > x := by simpa using hl
          simp [Builtin.max2, this]
        · rename_i hl
          rw [ltI_spec] at hl
          cases h
          refine ⟨.int k x, ?_, .int _ _⟩
          have : ¬ y > x := by simpa using hl
          simp [Builtin.max2, this]
      · split at h
        · rename_i hl
          rw [ltI_spec] at hl
          cases h
          refine ⟨.int k y, ?_, .int _ _⟩
          have : y < x := by simpa using hl
          simp [Builtin.min2, this]
        · rename_i hl
          rw [ltI_spec] at hl
          cases h
          refine ⟨.int k x, ?_, .int _ _⟩
          have : ¬ y < x := by simpa using hl
          simp [Builtin.min2, this]
    · cases h
  · cases h
theorem foldMax_spec {P : Program} {w : World} {C : CM} {mx : Bool} : ∀ {l : List AV} {a r : AV}, foldMax mx a l = some r → ∀ {u : Value} {vs : List Value}, VR C a u → VRs C l vs →
    ∃ z, (vs.foldlM (if mx then Builtin.max2 else Builtin.min2) u).run P w = .ok z w ∧ VR C r z
  | [], a, r, h, u, [], hu, .nil => by cases h; exact ⟨u, by simp, hu⟩
  | b :: l, a, r, h, u, v :: vs, hu, .cons e es => by
    unfold foldMax at h
    split at h
    · rename_i c hc
      obtain ⟨z, h1, h2⟩ := maxA_spec (P := P) (w := w) hc hu e
      obtain ⟨z', h3, h4⟩ := foldMax_spec (P := P) (w := w) h h2 es
      refine ⟨z', ?_, h4⟩
      have h1' : ((if mx then Builtin.max2 else Builtin.min2) u v).run P w = .ok z w := by cases mx <;> simpa using h1
      simp only [List.foldlM_cons, Sem.run_bind, h1', Result.andThen_ok, h3]
    · cases h
theorem max_sound (P : Program) (mx : Bool) (args : Array Operand) (ts : Array TypeId) (ty : TypeId) :
    Sound P (maxF mx args.toList) (fun ρ => do pure (.value (← if mx then Builtin.max_ ts ty (args.map ρ) else Builtin.min_ ts ty (args.map ρ)))) := by
  intro w0 C H w E ρ hR hρ
  unfold maxF
  dsimp only
  cases hq : (opds args.toList).run E with
  | none => exact trivial
  | some L0 =>
    cases L0 with
    | nil => exact trivial
    | cons a l =>
      cases a with
      | int k n =>
        refine ret1_ok hR fun r hr => ?_
        have hv := opds_spec hρ hq
        have hargs : (args.map ρ).toList = args.toList.map ρ := Array.toList_map ..
        generalize hL : args.toList.map ρ = L at hv hargs
        cases hv with
        | cons e es =>
          obtain ⟨z, h1, h2⟩ := foldMax_spec (P := P) (w := w) hr e es
          refine ⟨z, ?_, h2⟩
          cases mx
          · simp only [Bool.false_eq_true, if_false, Builtin.min_, hargs] at h1 ⊢
            simp only [Sem.run_bind, h1, Result.andThen_ok, Sem.run_pure]
          · simp only [if_true, Builtin.max_, hargs] at h1 ⊢
            simp only [Sem.run_bind, h1, Result.andThen_ok, Sem.run_pure]
      | _ => exact trivial

theorem delMapA_spec {C : CM} {d : TypeDesc} {k : AV} {u : Value} (hu : VR C k u) : ∀ {es es' : List (AV × AV × Nat)} {ces : List MapEntry} (i : Nat), delMapA d k es = some es' → MR C es ces →
    (Instr.findNow d u ces i = some none ∧ MR C es' ces) ∨ (∃ j y, Instr.findNow d u ces i = some (some (j + i, y)) ∧ j < ces.length ∧ MR C es' (ces.eraseIdx j))
  | [], es', [], i, h, .nil => by cases h; exact .inl ⟨rfl, .nil⟩
  | (k', v', b) :: l, es', e :: r, i, h, .cons hk hv hb hm => by
    unfold delMapA at h
    split at h
    · rename_i hq
      cases h
      exact .inr ⟨0, e.val, by simp [Instr.findNow, (keyEq_now hq hu hk).1], by simp, by simpa using hm⟩
    · rename_i hq
      split at h
      · rename_i r' hs
        cases h
        rcases delMapA_spec hu (i + 1) hs hm with ⟨q1, q2⟩ | ⟨j, y, q1, q2, q3⟩
        · exact .inl ⟨by simpa [Instr.findNow, (keyEq_now hq hu hk).1] using q1, .cons hk hv hb q2⟩
        · refine .inr ⟨j + 1, y, ?_, by simpa using q2, .cons hk hv hb q3⟩
          rw [show j + 1 + i = j + (i + 1) from by omega]
          simpa [Instr.findNow, (keyEq_now hq hu hk).1] using q1
      · cases h
    · cases h

theorem delete_sound (P : Program) (ts : Array TypeId) (args : Array Operand) (ty : TypeId) : Sound P (deleteF P ts args) (fun ρ => do pure (.value (← Builtin.delete_ ts ty (args.map ρ)))) := by
  unfold deleteF
  split
  · rename_i st xt s x hts hargs
    have ets := arr2 hts
    have eargs := arr2 hargs
    subst ets eargs
    refine Sound.congr (nx := fun ρ => do pure (.value (← Builtin.delete_ #[st, xt] ty #[ρ s, ρ x]))) (fun ρ => by simp) ?_
    split
    · rename_i key e hu
      split
      · rename_i d hd
        obtain ⟨hud, _⟩ := keyT_spec hd
        refine binary2_sound fun w0 C H w ρ a b hR ha hb => ?_
        split
        · rename_i o
          split
          · rename_i es ck hg
            split
            · rename_i es' hs
              generalize ρ s = ps at ha
              cases ha with
              | @map _ L hL =>
                obtain ⟨hB, ces, q1, q2⟩ := hR.obj o _ (hR.fresh _ _ _ hL) hg _ hL
                have hlt := hR.lt _ _ _ hL
                have hget : (getObj L.b).run P w = .ok (.map ces ck) w := by simp [getObj, Sem.run, q1]
                have hset : ∀ y, (setObj L.b y).run P w = .ok () { w with heap := w.heap.setIfInBounds L.b y } := by intro y; simp [setObj, Sem.run, q1]
                rcases delMapA_spec hb 0 hs q2 with ⟨p1, p2⟩ | ⟨j, y, p1, p2, p3⟩
                · refine ⟨C, { w with heap := w.heap.setIfInBounds L.b (.map ces ck) }, .tuple #[], CM.le_refl C, hR.putObj hL hB _ _ ?_ (fun _ _ _ _ e => by cases e), .tup .nil, .inl ?_⟩
                  · intro L' hL'
                    rw [hL] at hL'; cases hL'
                    exact ⟨hB, _, putObj_heap_same w _ hlt, p2⟩
                  · unfold Builtin.delete_
                    simp only [List.getElem?_toArray, List.getElem?_cons_zero, List.getElem?_cons_succ, Sem.run_bind, run_und hu, Result.andThen_ok, hget, run_checkKey hd, run_findKey hud p1, hset, Sem.run_pure]
                · refine ⟨C, { w with heap := w.heap.setIfInBounds L.b (.map (ces.eraseIdxIfInBounds j) ck) }, .tuple #[], CM.le_refl C, hR.putObj hL hB _ _ ?_ (fun _ _ _ _ e => by cases e), .tup .nil, .inl ?_⟩
                  · intro L' hL'
                    rw [hL] at hL'; cases hL'
                    refine ⟨hB, _, putObj_heap_same w _ hlt, ?_⟩
                    have hj : j < ces.size := by simpa using p2
                    have : (ces.eraseIdxIfInBounds j).toList = ces.toList.eraseIdx j := by
                      simp [Array.eraseIdxIfInBounds, hj]
                    rw [this]; exact p3
                  · unfold Builtin.delete_
                    simp only [List.getElem?_toArray, List.getElem?_cons_zero, List.getElem?_cons_succ, Sem.run_bind, run_und hu, Result.andThen_ok, hget, run_checkKey hd, run_findKey hud p1, Nat.add_zero, hset, Sem.run_pure]
            · exact trivial
          · exact trivial
        · exact trivial
      · exact stuck_sound P _
    · exact stuck_sound P _
  · exact stuck_sound P _

end Go.Sv
