/- Texts of the evaluator, of the logic over it, of plain arithmetic. -/
import Derived.Test.YtcbbilifblbblaaSvG0
import Derived.Laws.Externs
import Derived.MapKept
import Derived.RangeFuncIn
import Derived.RangeFuncRecord
import Derived.Orders
import Derived.WalkKit
import Derived.ProofKit
import Derived.OpenShut
namespace Go.Sv
open Go.RowKit (Below)
theorem cell_of_heap {w w' : World} (h : w'.heap = w.heap) (a : Addr) : w'.cell? a = w.cell? a := by simp [World.cell?, h]
theorem takeA_spec {P : Program} {w0 : World} {C : CM} {H : Heap} {w : World} (hR : Rel w0 C H w) {size : Nat} {b : AV} {x : Value} (hb : VR C b x) {n : Nat} {l : List AV} (h : takeA H size b = some (n, l)) :
  ∃ vs : List Value, VRs C l vs ∧ (∀ a ∈ l, a.one = true) ∧ l.length = n * size ∧ (Builtin.lenOf x).run P w = .ok n w ∧
   ∀ m, m ≤ n → ∀ w', w'.heap = w.heap → (Builtin.firstCells size m x).run P w' = .ok (vs.take (m * size)).toArray w' := by
 unfold takeA at h
 split at h
 ·cases h; cases hb
  exact ⟨[], .nil, by simp, by simp, rfl, fun m hm w' _ => by simp [Builtin.firstCells]⟩
 ·cases h
  cases hb with
  | @emp a cap =>
   refine ⟨[], .nil, by simp, by simp, rfl, fun m hm w' _ => ?_⟩
   have : m = 0 := by omega
   subst this
   simp only [Builtin.firstCells, Nat.zero_mul]
   rw [run_loadCells P w' a 0 [] rfl (fun j hj => by omega)]
   rfl
 ·rename_i o v i len esz room
  split at h
  ·rename_i he
   have he' : esz = size := Nat.eq_of_beq_eq_true he
   subst he'
   split at h
   ·rename_i l' hl
    cases h
    cases hb with
    | @sl _ _ _ _ _ _ L cap hL =>
     obtain ⟨vs, _, h2, h3, h4, _, h6⟩ := hR.read P hl hL
     refine ⟨vs, h2, h3, h4, rfl, fun m hm w' hw => ?_⟩
     have hms : m * esz ≤ n * esz := Nat.mul_le_mul_right _ hm
     have h4' : vs.length = n * esz := by have e1 := h2.length; have e2 : l.length = n * esz := h4; omega
     simp only [Builtin.firstCells]
     refine run_loadCells P w' _ _ _ (by simp; omega) (fun j hj => ?_)
     rw [add_addr, cell_of_heap hw, h6 j (show j < Nat.mul n esz by show j < n * esz; omega), List.getElem?_take_of_lt hj]
   ·cases h
  ·cases h
 ·rename_i len n'
  split at h
  ·rename_i hs1
   cases h
   have hs1' : size = 1 := Nat.eq_of_beq_eq_true hs1
   subst hs1'
   cases hb with
   | @str _ _ s h1 h2 =>
    subst h1 h2
    rw [unpack_pack]
    refine ⟨s.data.toList.map fun b => Value.int .u8 (b.toNat : Int), ?_, ?_, by simp, rfl, fun m hm w' _ => ?_⟩
    ·generalize s.data.toList = q
     induction q with
     | nil => exact .nil
     | cons b q ih => exact .cons (.int _ _) ih
    ·intro a ha; simp only [List.mem_map] at ha; obtain ⟨b, _, rfl⟩ := ha; rfl
    ·simp only [Builtin.firstCells, Sem.run_pure]
     congr 1
     apply Array.toList_inj.1
     rw [Array.toList_map, Lib.extract_data]
     simp
  ·cases h
 ·cases h
theorem Sound.congr {P : Program} {f : OpF} {nx nx' : (Operand → Value) → Sem Next} (h : ∀ ρ, nx ρ = nx' ρ) (s : Sound P f nx) : Sound P f nx' := fun w0 C H w E ρ hR hρ => by rw [← h ρ]; exact s w0 C H w E ρ hR hρ
theorem arr2 {α : Type} {a : Array α} {x y : α} (h : a.toList = [x, y]) : a = #[x, y] := Array.toList_inj.1 h
theorem arr1 {α : Type} {a : Array α} {x : α} (h : a.toList = [x]) : a = #[x] := Array.toList_inj.1 h
theorem append_sound (P : Program) (ts : Array TypeId) (args : Array Operand) (ty : TypeId) : Sound P (appendF P ts args) (fun ρ => do pure (.value (← Builtin.append_ ts ty (args.map ρ)))) := by
 unfold appendF
 split
 ·rename_i st xt s x hts hargs
  have ets := arr2 hts
  have eargs := arr2 hargs
  subst ets eargs
  refine Sound.congr (nx := fun ρ => do pure (.value (← Builtin.append_ #[st, xt] ty #[ρ s, ρ x]))) (fun ρ => by simp) ?_
  have key : ∀ elem, P.underlying st = some (.slice elem) → ∀ d, P.underlying xt = some d → (d = .string ∨ ∃ e, d = .slice e) → Sound P (appendG P elem s x) (fun ρ => do pure (.value (← Builtin.append_ #[st, xt] ty #[ρ s, ρ x]))) := by
   intro elem hu d hd hdd
   unfold appendG
   split
   ·rename_i i z hi hz
    split
    ·rename_i hc
     obtain ⟨hpos, hby⟩ := hc
     refine binary2_sound fun w0 C H w ρ a b hR ha hb => ?_
     split
     ·rename_i n l ht
      split
      ·rename_i hn
       have hn' : n ≤ 1048576 := Nat.le_of_ble_eq_true hn
       obtain ⟨vs, h1, h2, h3, h4, h5⟩ := takeA_spec (P := P) hR hb ht
       have hvl : vs.length = n * i.size := by have := h1.length; omega
       refine append_ok hR hu hi hpos hby hz ha (news := vs.toArray) ⟨d, hd, .inl ⟨hdd, h4, fun w' hw => ?_⟩⟩ hn' (by simpa using h1) h2 h3
       rw [h5 n (Nat.le_refl _) w' hw, List.take_of_length_le (by omega)]
      ·exact trivial
     ·exact trivial
    ·exact stuck_sound P _
   ·exact stuck_sound P _
  split
  ·rename_i elem k hu hx
   unfold appendZ
   split
   ·rename_i i z hi hz
    split
    ·rename_i hc
     obtain ⟨hpos, hby⟩ := hc
     refine binary2_sound fun w0 C H w ρ a b hR ha hb => ?_
     split
     ·rename_i n
      split
      ·rename_i hn
       have hn' : n ≤ 1048576 := Nat.le_of_ble_eq_true hn
       obtain ⟨zv, j, hz1, hz2, hz3, hz4⟩ := run_zeroT' hz
       rw [hi] at hz3; cases hz3
       obtain ⟨k1, k2⟩ := absL_spec (C := C) hz2
       have hzs : zv.cells.size = i.size := by have := k1.length; simp at this; omega
       have hcells : VRs C (repeatL z n) (Builtin.zeroCells zv.cells n).toList := by
        unfold Builtin.zeroCells; rw [zeros_eq]; exact repeatL_rel k1 n
       generalize ρ x = px at hb
       cases hb
       exact append_ok hR hu hi hpos hby hz ha (news := Builtin.zeroCells zv.cells n) ⟨_, hx, .inr ⟨⟨_, rfl⟩, rfl, hn', hpos, zv, hz1, ⟨i, hi, hby⟩, rfl, hzs⟩⟩ hn' hcells (repeatL_one k2 n) (by rw [repeatL_length, hz4])
      ·exact trivial
     ·exact trivial
    ·exact stuck_sound P _
   ·exact stuck_sound P _
  ·rename_i elem e hu hx; exact key elem hu _ hx (.inr ⟨e, rfl⟩)
  ·rename_i elem hu hx; exact key elem hu _ hx (.inl rfl)
  ·exact stuck_sound P _
 ·exact stuck_sound P _
theorem copy_sound (P : Program) (ts : Array TypeId) (args : Array Operand) (ty : TypeId) : Sound P (copyF P ts args) (fun ρ => do pure (.value (← Builtin.copy_ ts ty (args.map ρ)))) := by
 unfold copyF
 split
 ·rename_i st xt s x hts hargs
  have ets := arr2 hts
  have eargs := arr2 hargs
  subst ets eargs
  refine Sound.congr (nx := fun ρ => do pure (.value (← Builtin.copy_ #[st, xt] ty #[ρ s, ρ x]))) (fun ρ => by simp) ?_
  split
  ·rename_i elem hu
   split
   ·exact stuck_sound P _
   ·rename_i size hs
    split
    ·rename_i hpos
     refine binary2_sound fun w0 C H w ρ a b hR ha hb => ?_
     split
     ·rename_i n l ht
      obtain ⟨vs, h1, h2, h3, h4, h5⟩ := takeA_spec (P := P) hR hb ht
      have hvl : vs.length = n * size := by have := h1.length; omega
      split
      ·generalize ρ s = ps at ha
       cases ha
       refine val_same hR (x := .int .i64 0) (.int _ _) ?_
       have hf := h5 0 (Nat.zero_le _) w rfl
       have e0 : Nat.min n 0 = 0 := Nat.min_zero n
       unfold Builtin.copy_
       simp only [List.getElem?_toArray, List.getElem?_cons_zero, List.getElem?_cons_succ, Sem.run_bind, run_und hu, Result.andThen_ok, h4, run_size hs, e0, hf, Sem.run_pure]
       rfl
      ·generalize ρ s = ps at ha
       cases ha with
       | @emp ad cap =>
        refine val_same hR (x := .int .i64 0) (.int _ _) ?_
        have hf := h5 0 (Nat.zero_le _) w rfl
        have e0 : Nat.min n 0 = 0 := Nat.min_zero n
        unfold Builtin.copy_
        simp only [List.getElem?_toArray, List.getElem?_cons_zero, List.getElem?_cons_succ, Sem.run_bind, run_und hu, Result.andThen_ok, h4, run_size hs, e0, hf, Sem.run_pure]
        simp [storeCells, goInt]
      ·rename_i o v i len esz room
       split
       ·rename_i he
        have he' : esz = size := Nat.eq_of_beq_eq_true he
        subst he'
        split
        ·rename_i H' hw
         generalize ρ s = ps at ha
         cases ha with
         | @sl _ _ _ _ _ _ L cap hL q1 q2 q3 =>
          have hm : minN n len = Nat.min n len := minN_spec n len
          have hf := h5 (Nat.min n len) (Nat.min_le_left _ _) w rfl
          obtain ⟨w', r1, r2⟩ := hR.write P hw hL (h1.take _) (fun a ha => h2 a (List.mem_of_mem_take ha))
          rw [hm] at r1 ⊢
          refine ⟨C, w', .int .i64 (Int.ofNat (Nat.min n len)), CM.le_refl C, r2, .int _ _, .inl ?_⟩
          unfold Builtin.copy_
          have r1' : (storeCells ⟨L.b, L.d + i, none⟩ (vs.take (Nat.min n len * esz))).run P w = .ok () w' := r1
          simp only [List.getElem?_toArray, List.getElem?_cons_zero, List.getElem?_cons_succ, Sem.run_bind, run_und hu, Result.andThen_ok, h4, run_size hs, hf, Sem.run_pure, r1']
          rfl
        ·exact trivial
       ·exact trivial
      ·exact trivial
     ·exact trivial
    ·exact stuck_sound P _
  ·exact stuck_sound P _
 ·exact stuck_sound P _
theorem clear_sound (P : Program) (ts : Array TypeId) (args : Array Operand) (ty : TypeId) : Sound P (clearF P ts args) (fun ρ => do pure (.value (← Builtin.clear_ ts ty (args.map ρ)))) := by
 unfold clearF
 split
 ·rename_i st x hts hargs
  have ets := arr1 hts
  have eargs := arr1 hargs
  subst ets eargs
  refine Sound.congr (nx := fun ρ => do pure (.value (← Builtin.clear_ #[st] ty #[ρ x]))) (fun ρ => by simp) ?_
  split
  ·rename_i elem hu
   split
   ·rename_i size z hs hz
    split
    ·rename_i hpos
     refine unary1_sound fun w0 C H w ρ a hR ha => ?_
     split
     ·generalize ρ x = px at ha
      cases ha
      refine val_same hR (x := .tuple #[]) (.tup .nil) ?_
      simp [Builtin.clear_, run_und hu]
     ·generalize ρ x = px at ha
      cases ha with
      | @emp ad cap =>
       refine val_same hR (x := .tuple #[]) (.tup .nil) ?_
       simp [Builtin.clear_, run_und hu]
     ·rename_i o v i len esz room
      split
      ·rename_i he
       have he' : esz = size := Nat.eq_of_beq_eq_true he
       subst he'
       split
       ·rename_i H' hw
        generalize ρ x = px at ha
        cases ha with
        | @sl _ _ _ _ _ _ L cap hL q1 q2 q3 =>
         obtain ⟨zv, j, hz1, hz2, hz3, hz4⟩ := run_zeroT' hz
         obtain ⟨k1, k2⟩ := absL_spec (C := C) hz2
         obtain ⟨w', r1, r2⟩ := hR.write P hw hL (repeatL_rel k1 len) (repeatL_one k2 len)
         by_cases hl0 : len = 0
         ·subst hl0
          have : w' = w := by
           have : (storeCells ⟨L.b, L.d + i, none⟩ (repV zv.cells.toList 0)).run P w = .ok () w := rfl
           rw [this] at r1; cases r1; rfl
          subst this
          exact ⟨C, w', .tuple #[], CM.le_refl C, r2, .tup .nil, .inl (by simp [Builtin.clear_, run_und hu])⟩
         ·refine ⟨C, w', .tuple #[], CM.le_refl C, r2, .tup .nil, .inl ?_⟩
          unfold Builtin.clear_
          have hzc : (Builtin.zeroCells zv.cells len).toList = repV zv.cells.toList len := by unfold Builtin.zeroCells; exact zeros_eq _ _
          obtain ⟨len', rfl⟩ : ∃ k, len = k + 1 := ⟨len - 1, by omega⟩
          simp only [List.getElem?_toArray, List.getElem?_cons_zero, Sem.run_bind, run_und hu, Result.andThen_ok, hz1, Sem.run_pure, hzc, r1]
       ·exact trivial
      ·exact trivial
     ·exact trivial
    ·exact stuck_sound P _
   ·exact stuck_sound P _
  ·exact stuck_sound P _
 ·exact stuck_sound P _
theorem len_sound (P : Program) (t ty : TypeId) (x : Operand) : Sound P (lenF P t x) (fun ρ => do pure (.value (← Builtin.len_ #[t] ty #[ρ x]))) := by
 unfold lenF
 split
 ·rename_i hu
  refine unary1_sound fun w0 C H w ρ a hR ha => ?_
  split
  ·generalize ρ x = px at ha
   cases ha with
   | @str _ _ s h1 h2 =>
    subst h1 h2
    exact val_same hR (x := .int .i64 (Int.ofNat s.size)) (.int _ _) (by simp [Builtin.len_, run_und hu, goInt])
  ·exact trivial
 ·rename_i e hu
  refine unary1_sound fun w0 C H w ρ a hR ha => ?_
  split
  ·rename_i o v i len esz room
   generalize ρ x = px at ha
   cases ha with
   | sl => exact val_same hR (x := .int .i64 (Int.ofNat len)) (.int _ _) (by simp [Builtin.len_, run_und hu, goInt])
  ·generalize ρ x = px at ha
   cases ha
   exact val_same hR (x := .int .i64 0) (.int _ _) (by simp [Builtin.len_, run_und hu, goInt])
  ·generalize ρ x = px at ha
   cases ha
   exact val_same hR (x := .int .i64 0) (.int _ _) (by simp [Builtin.len_, run_und hu, goInt])
  ·exact trivial
 ·rename_i k e hu
  refine unary1_sound fun w0 C H w ρ a hR ha => ?_
  split
  ·generalize ρ x = px at ha
   cases ha
   exact val_same hR (x := .int .i64 0) (.int _ _) (by simp [Builtin.len_, run_und hu, goInt])
  ·rename_i o
   split
   ·rename_i es ck hg
    generalize ρ x = px at ha
    cases ha with
    | @map _ L hL =>
     obtain ⟨_, ces, q1, q2⟩ := hR.obj o _ (hR.fresh _ _ _ hL) hg _ hL
     have hlen : es.length = ces.size := by have := q2.length; simpa using this
     have hget : (getObj L.b).run P w = .ok (.map ces ck) w := by simp [getObj, Sem.run, q1]
     exact val_same hR (x := .int .i64 (Int.ofNat es.length)) (.int _ _) (by simp [Builtin.len_, run_und hu, hget, goInt, hlen])
   ·exact trivial
  ·exact trivial
 ·rename_i n e hu
  refine unary1_sound fun w0 C H w ρ a hR ha => ?_
  exact val_same hR (x := .int .i64 (Int.ofNat n)) (.int _ _) (by simp [Builtin.len_, run_und hu, goInt])
 ·exact stuck_sound P _
theorem cap_sound (P : Program) (t ty : TypeId) (x : Operand) : Sound P (capF P t x) (fun ρ => do pure (.value (← Builtin.cap_ #[t] ty #[ρ x]))) := by
 unfold capF
 split
 ·rename_i e hu
  refine unary1_sound fun w0 C H w ρ a hR ha => ?_
  split
  ·generalize ρ x = px at ha
   cases ha
   exact val_same hR (x := .int .i64 0) (.int _ _) (by simp [Builtin.cap_, run_und hu, goInt])
  ·rename_i r
   generalize ρ x = px at ha
   cases ha with
   | sl _ _ _ _ h4 =>
    obtain ⟨h5, _⟩ := h4 r rfl
    subst h5
    exact val_same hR (.int .i64 _) (by simp [Builtin.cap_, run_und hu, goInt])
  ·exact trivial
 ·exact stuck_sound P _
theorem maxA_spec {P : Program} {w : World} {C : CM} {mx : Bool} {a b r : AV} (h : maxA mx a b = some r) {u v : Value} (hu : VR C a u) (hv : VR C b v) :
  ∃ z, (if mx then Builtin.max2 u v else Builtin.min2 u v).run P w = .ok z w ∧ VR C r z := by
 unfold maxA at h
 split at h
 ·rename_i k x k' y
  split at h
  ·rename_i hk
   have := kindEq_spec hk
   subst this
   cases hu; cases hv
   split at h
   ·split at h
    ·rename_i hl
     rw [ltI_spec] at hl
     cases h
     refine ⟨.int k y, ?_, .int _ _⟩
     have : y > x := by simpa using hl
     simp [Builtin.max2, this]
    ·rename_i hl
     rw [ltI_spec] at hl
     cases h
     refine ⟨.int k x, ?_, .int _ _⟩
     have : ¬ y > x := by simpa using hl
     simp [Builtin.max2, this]
   ·split at h
    ·rename_i hl
     rw [ltI_spec] at hl
     cases h
     refine ⟨.int k y, ?_, .int _ _⟩
     have : y < x := by simpa using hl
     simp [Builtin.min2, this]
    ·rename_i hl
     rw [ltI_spec] at hl
     cases h
     refine ⟨.int k x, ?_, .int _ _⟩
     have : ¬ y < x := by simpa using hl
     simp [Builtin.min2, this]
  ·cases h
 ·cases h
theorem foldMax_spec {P : Program} {w : World} {C : CM} {mx : Bool} : ∀ {l : List AV} {a r : AV}, foldMax mx a l = some r → ∀ {u : Value} {vs : List Value}, VR C a u → VRs C l vs →
  ∃ z, (vs.foldlM (if mx then Builtin.max2 else Builtin.min2) u).run P w = .ok z w ∧ VR C r z
 | [], a, r, h, u, [], hu, .nil => by cases h; exact ⟨u, by simp, hu⟩
 | b :: l, a, r, h, u, v :: vs, hu, .cons e es => by
  unfold foldMax at h
  split at h
  ·rename_i c hc
   obtain ⟨z, h1, h2⟩ := maxA_spec (P := P) (w := w) hc hu e
   obtain ⟨z', h3, h4⟩ := foldMax_spec (P := P) (w := w) h h2 es
   refine ⟨z', ?_, h4⟩
   have h1' : ((if mx then Builtin.max2 else Builtin.min2) u v).run P w = .ok z w := by cases mx <;> simpa using h1
   simp only [List.foldlM_cons, Sem.run_bind, h1', Result.andThen_ok, h3]
  ·cases h
theorem max_sound (P : Program) (mx : Bool) (args : Array Operand) (ts : Array TypeId) (ty : TypeId) :
  Sound P (maxF mx args.toList) (fun ρ => do pure (.value (← if mx then Builtin.max_ ts ty (args.map ρ) else Builtin.min_ ts ty (args.map ρ)))) := by
 intro w0 C H w E ρ hR hρ
 unfold maxF
 dsimp only
 cases hq : (opds args.toList).run E with
 | none => exact trivial
 | some L0 =>
  cases L0 with
  | nil => exact trivial
  | cons a l =>
   cases a with
   | int k n =>
    refine ret1_ok hR fun r hr => ?_
    have hv := opds_spec hρ hq
    have hargs : (args.map ρ).toList = args.toList.map ρ := Array.toList_map ..
    generalize hL : args.toList.map ρ = L at hv hargs
    cases hv with
    | cons e es =>
     obtain ⟨z, h1, h2⟩ := foldMax_spec (P := P) (w := w) hr e es
     refine ⟨z, ?_, h2⟩
     cases mx
     ·simp only [Bool.false_eq_true, if_false, Builtin.min_, hargs] at h1 ⊢
      simp only [Sem.run_bind, h1, Result.andThen_ok, Sem.run_pure]
     ·simp only [if_true, Builtin.max_, hargs] at h1 ⊢
      simp only [Sem.run_bind, h1, Result.andThen_ok, Sem.run_pure]
   | _ => exact trivial
theorem delMapA_spec {C : CM} {d : TypeDesc} {k : AV} {u : Value} (hu : VR C k u) : ∀ {es es' : List (AV × AV × Nat)} {ces : List MapEntry} (i : Nat), delMapA d k es = some es' → MR C es ces →
  (Instr.findNow d u ces i = some none ∧ MR C es' ces) ∨ (∃ j y, Instr.findNow d u ces i = some (some (j + i, y)) ∧ j < ces.length ∧ MR C es' (ces.eraseIdx j))
 | [], es', [], i, h, .nil => by cases h; exact .inl ⟨rfl, .nil⟩
 | (k', v', b) :: l, es', e :: r, i, h, .cons hk hv hb hm => by
  unfold delMapA at h
  split at h
  ·rename_i hq
   cases h
   exact .inr ⟨0, e.val, by simp [Instr.findNow, (keyEq_now hq hu hk).1], by simp, by simpa using hm⟩
  ·rename_i hq
   split at h
   ·rename_i r' hs
    cases h
    rcases delMapA_spec hu (i + 1) hs hm with ⟨q1, q2⟩ | ⟨j, y, q1, q2, q3⟩
    ·exact .inl ⟨by simpa [Instr.findNow, (keyEq_now hq hu hk).1] using q1, .cons hk hv hb q2⟩
    ·refine .inr ⟨j + 1, y, ?_, by simpa using q2, .cons hk hv hb q3⟩
     rw [show j + 1 + i = j + (i + 1) from by omega]
     simpa [Instr.findNow, (keyEq_now hq hu hk).1] using q1
   ·cases h
  ·cases h
theorem delete_sound (P : Program) (ts : Array TypeId) (args : Array Operand) (ty : TypeId) : Sound P (deleteF P ts args) (fun ρ => do pure (.value (← Builtin.delete_ ts ty (args.map ρ)))) := by
 unfold deleteF
 split
 ·rename_i st xt s x hts hargs
  have ets := arr2 hts
  have eargs := arr2 hargs
  subst ets eargs
  refine Sound.congr (nx := fun ρ => do pure (.value (← Builtin.delete_ #[st, xt] ty #[ρ s, ρ x]))) (fun ρ => by simp) ?_
  split
  ·rename_i key e hu
   split
   ·rename_i d hd
    obtain ⟨hud, _⟩ := keyT_spec hd
    refine binary2_sound fun w0 C H w ρ a b hR ha hb => ?_
    split
    ·rename_i o
     split
     ·rename_i es ck hg
      split
      ·rename_i es' hs
       generalize ρ s = ps at ha
       cases ha with
       | @map _ L hL =>
        obtain ⟨hB, ces, q1, q2⟩ := hR.obj o _ (hR.fresh _ _ _ hL) hg _ hL
        have hlt := hR.lt _ _ _ hL
        have hget : (getObj L.b).run P w = .ok (.map ces ck) w := by simp [getObj, Sem.run, q1]
        have hset : ∀ y, (setObj L.b y).run P w = .ok () { w with heap := w.heap.setIfInBounds L.b y } := by intro y; simp [setObj, Sem.run, q1]
        rcases delMapA_spec hb 0 hs q2 with ⟨p1, p2⟩ | ⟨j, y, p1, p2, p3⟩
        ·refine ⟨C, { w with heap := w.heap.setIfInBounds L.b (.map ces ck) }, .tuple #[], CM.le_refl C, hR.putObj hL hB _ _ ?_ (fun _ _ _ _ e => by cases e), .tup .nil, .inl ?_⟩
         ·intro L' hL'
          rw [hL] at hL'; cases hL'
          exact ⟨hB, _, putObj_heap_same w _ hlt, p2⟩
         ·unfold Builtin.delete_
          simp only [List.getElem?_toArray, List.getElem?_cons_zero, List.getElem?_cons_succ, Sem.run_bind, run_und hu, Result.andThen_ok, hget, run_checkKey hd, run_findKey hud p1, hset, Sem.run_pure]
        ·refine ⟨C, { w with heap := w.heap.setIfInBounds L.b (.map (ces.eraseIdxIfInBounds j) ck) }, .tuple #[], CM.le_refl C, hR.putObj hL hB _ _ ?_ (fun _ _ _ _ e => by cases e), .tup .nil, .inl ?_⟩
         ·intro L' hL'
          rw [hL] at hL'; cases hL'
          refine ⟨hB, _, putObj_heap_same w _ hlt, ?_⟩
          have hj : j < ces.size := by simpa using p2
          have : (ces.eraseIdxIfInBounds j).toList = ces.toList.eraseIdx j := by
           simp [Array.eraseIdxIfInBounds, hj]
          rw [this]; exact p3
         ·unfold Builtin.delete_
          simp only [List.getElem?_toArray, List.getElem?_cons_zero, List.getElem?_cons_succ, Sem.run_bind, run_und hu, Result.andThen_ok, hget, run_checkKey hd, run_findKey hud p1, Nat.add_zero, hset, Sem.run_pure]
      ·exact trivial
     ·exact trivial
    ·exact trivial
   ·exact stuck_sound P _
  ·exact stuck_sound P _
 ·exact stuck_sound P _
end Go.Sv
namespace Go.Sv
open Go.RowKit (Below)
theorem run_callFunc {P : Program} {w : World} {f : Nat} (h : callable P f = true) (args : Array Value) : (callFunc f args).run P w = .ok (.enter f args) w := by
 unfold callable at h
 cases hf : P.funcs[f]? with
 | none => rw [hf] at h; cases h
 | some fn =>
  rw [hf] at h
  simp only [Bool.and_eq_true, bne_iff_ne, ne_eq] at h
  obtain ⟨h1, h2⟩ := h
  have h2' : fn.body ≠ none := by intro e; rw [e] at h2; cases h2
  simp [callFunc, hf, h1, h2']
theorem callFn_ok {P : Program} {w0 : World} {C : CM} {w : World} {g : AV} {gv : Value} (hg : VR C g gv) {args : List AV} {vs : Array Value} (hv : VRs C args vs.toList) {nx : Sem Next}
  (hnx : ∀ fn first cap, gv = .func fn first cap → nx.run P w = (invoke (.fn fn cap) (first ++ vs)).run P w) : OROk P w0 C w nx (callFn P g args) := by
 unfold callFn
 split
 ·rename_i f first cap
  split
  ·rename_i hc
   cases hg with
   | @fn _ g' _ _ l' r' hf hl hr =>
    cases hf with
    | same =>
     refine ⟨l'.toList ++ vs.toList ++ r'.toList, (hl.append hv).append hr, .inl ⟨f, rfl, ?_⟩⟩
     rw [hnx _ _ _ rfl]
     have : (l' ++ vs ++ r') = (l'.toList ++ vs.toList ++ r'.toList).toArray := by simp
     rw [← this]
     exact run_callFunc hc _
  ·exact trivial
 ·rename_i l cap
  cases hg with
  | @fn _ g' _ _ l' r' hf hl hr =>
   cases hf with
   | same _ h => exact absurd rfl (h l)
   | @yield _ L hL =>
    have hl0 : l' = #[] := by
     have := hl.length
     exact Array.eq_empty_of_size_eq_zero (by simpa using this.symm)
    subst hl0
    refine ⟨vs.toList, hv, .inr ⟨l, L, rfl, hL, ?_⟩⟩
    rw [hnx _ _ _ rfl]
    simp [invoke]
 ·exact trivial
theorem find_clone {fn : Func} (h1 : fn.name = "maps.clone") (h2 : fn.origin = "") : Extern.findNext fn = none ∧ Extern.find fn = some Extern.MapsClone.clone := by
 have e1 : Extern.allNextRows.lookup "maps.clone" = none := by kernel_rfl
 have e2 : Extern.allNextRows.lookup "" = none := by kernel_rfl
 have e3 : Extern.allGenericRows.lookup "maps.clone" = none := by kernel_rfl
 have e4 : Extern.allTypedRows.lookup "maps.clone" = none := by kernel_rfl
 have e5 : Extern.allRows.lookup "maps.clone" = some Extern.MapsClone.clone := by kernel_rfl
 refine ⟨?_, ?_⟩
 ·unfold Extern.findNext
  dsimp only
  rw [h1, h2, e1, e2]
  rfl
 ·unfold Extern.find
  dsimp only
  rw [h1, e3, e4, e5]
  rfl
theorem run_clone {P : Program} {w : World} {r : Nat} {es : Array MapEntry} {clock : Nat} (t : TypeId) (hb : w.heap[r]? = some (.map es clock)) :
  (Extern.MapsClone.clone #[.iface t (.map (some r))]).run P w = .ok (.iface t (.map (some w.heap.size))) (w.alloc (.map es clock)) := by
 have e : Extern.MapsClone.clone #[.iface t (.map (some r))] = (getObj r >>= fun o => match o with
   | .map entries clock => (_root_.Go.newObj (.map entries clock) >>= fun n => pure (.iface t (.map (some n))))
   | _ => stuck "maps.clone: a map expected") := rfl
 rw [e]
 simp [MapKept.run_getObj_map hb, Result.andThen, go_sem]
theorem clone_ok {P : Program} {w0 : World} {C : CM} {H : Heap} {w : World} (hR : Rel w0 C H w) {f : Nat} (hf : isClone P f = true) {args : List AV} {vs : Array Value} (hv : VRs C args vs.toList) :
  OROk P w0 C w (callFunc f vs) (cloneA H args) := by
 unfold isClone at hf
 split at hf
 ·rename_i fn hfn
  simp only [Bool.and_eq_true, beq_iff_eq] at hf
  obtain ⟨⟨h1, h2⟩, h3⟩ := hf
  obtain ⟨k1, k2⟩ := find_clone h1 h2
  have hrun := run_callFunc_extern (P := P) hfn (by rw [h1]; decide) h3 k1 k2 vs w
  unfold cloneA
  split
  ·rename_i t o
   split
   ·rename_i es ck hg
    ·generalize hvs : vs.toList = l at hv
     cases hv with
     | cons hx hs =>
      cases hs
      cases hx with
      | iface hx =>
       cases hx with
       | @map _ L hL =>
        have hvs' : vs = #[.iface t (.map (some L.b))] := Array.toList_inj.1 hvs
        obtain ⟨q1, ces, q2, q3⟩ := hR.obj _ _ (hR.fresh _ _ _ hL) hg L hL
        obtain ⟨p1, p2⟩ := hR.push (.map es ck) (.map ces ck) 0 0 (fun L' hL' => by
         rw [CM.ext_same] at hL'; cases hL'
         exact ⟨hR.low.size, ces, heap_alloc_new _ _, q3.mono (CM.le_ext _ (hR.next_none 0) (.inr (Nat.le_of_eq hR.nx)))⟩)
        refine ⟨_, _, .iface t (.map (some w.heap.size)), p2, p1, .iface (.map (CM.ext_same _ _ _ _)), .inl ?_⟩
        rw [hrun, hvs', run_clone t q2]
        rfl
   ·exact trivial
  ·exact trivial
 ·cases hf
theorem methodA_spec {P : Program} {w : World} {t : TypeId} {name : String} {f : Nat} (h : methodA P t name = some f) (v : Value) : (method (P.types.size + Made.depth) t v name).run P w = .ok (f, v) w := by
 unfold methodA at h
 have hd : P.types.size + Made.depth = (P.types.size + 99) + 1 := rfl
 rw [hd]
 cases hi : P.info? t with
 | none => rw [hi] at h; cases h
 | some i =>
  rw [hi] at h
  dsimp only at h
  cases hm : i.methods.find? (·.name == name) with
  | none => rw [hm] at h; cases h
  | some m =>
   rw [hm] at h
   dsimp only at h
   split at h
   ·rename_i hp
    have hp' : m.path = #[] := Array.isEmpty_iff.1 hp
    unfold method
    simp only [Sem.run_bind, run_info hi, Result.andThen_ok, hm, hp', follow, Sem.run_pure]
    split at h
    ·rename_i f' e hf hu
     cases h
     simp only [hf, Sem.run_bind, receiverAt, run_und hu, Result.andThen_ok, Place.get, Sem.run_pure]
    ·cases h
    ·rename_i f' d hne hf hu
     cases h
     simp only [hf, Sem.run_bind, receiverAt, run_und hu, Result.andThen_ok]
     cases d <;> first | rfl | exact absurd hu (hne _)
    ·cases h
   ·cases h
theorem call_sound (P : Program) (c : Call) (o : Oper) (ho : o.op = .call c) : Sound P (callF P c) (fun ρ => execOp ρ o) := by
 have hex : ∀ ρ, execOp ρ o = (do let d ← resolve ρ c o.type; invoke d.target d.args) := fun ρ => by simp [execOp, ho]
 refine Sound.congr (fun ρ => (hex ρ).symm) ?_
 unfold callF
 split
 ·rename_i b hb
  have hb' : ∀ ρ, (do let d ← resolve ρ c o.type; invoke d.target d.args : Sem Next) = builtin b c.argTypes o.type (c.args.map fun | .const _ => true | _ => false) (c.args.map ρ) := by
   intro ρ
   simp only [resolve, hb]
   rfl
  refine Sound.congr (fun ρ => (hb' ρ).symm) ?_
  split
  ·split
   ·rename_i t x ht hx
    have et := arr1 ht
    have ex := arr1 hx
    exact Sound.congr (fun ρ => by rw [et, ex]; simp [builtin]) (len_sound P t o.type x)
   ·exact stuck_sound P _
  ·split
   ·rename_i t x ht hx
    have et := arr1 ht
    have ex := arr1 hx
    exact Sound.congr (fun ρ => by rw [et, ex]; simp [builtin]) (cap_sound P t o.type x)
   ·exact stuck_sound P _
  ·exact Sound.congr (fun ρ => by simp [builtin]) (max_sound P true c.args c.argTypes o.type)
  ·exact Sound.congr (fun ρ => by simp [builtin]) (max_sound P false c.args c.argTypes o.type)
  ·exact Sound.congr (fun ρ => by simp [builtin]) (append_sound P c.argTypes c.args o.type)
  ·exact Sound.congr (fun ρ => by simp [builtin]) (copy_sound P c.argTypes c.args o.type)
  ·exact Sound.congr (fun ρ => by simp [builtin]) (clear_sound P c.argTypes c.args o.type)
  ·exact Sound.congr (fun ρ => by simp [builtin]) (delete_sound P c.argTypes c.args o.type)
  ·exact stuck_sound P _
 ·rename_i f hf
  intro w0 C H w E ρ hR hρ
  dsimp only
  split
  ·rename_i g hg
   split
   ·rename_i l hl
    have hfn : OROk P w0 C w (do let d ← resolve ρ c o.type; invoke d.target d.args) (callFn P g l) := by
     refine callFn_ok (hρ _ _ hg) (vs := c.args.map ρ) (by rw [Array.toList_map]; exact opds_spec hρ hl) (fun fn first cap hv => ?_)
     simp only [resolve, hf, hv, Deferred.ofValue, Sem.run_bind, Sem.run_pure, Result.andThen_ok]
    unfold callVal
    split
    ·rename_i f'
     split
     ·rename_i hcl
      have hk := clone_ok hR hcl (vs := c.args.map ρ) (by rw [Array.toList_map]; exact opds_spec hρ hl)
      have hv := hρ _ _ hg
      generalize hgv : ρ f = gv at hv
      cases hv with
      | @fn _ g' _ _ l' r' hff hl' hr' =>
       cases hff with
       | same =>
        have e1 : l' = #[] := Array.eq_empty_of_size_eq_zero (by simpa using hl'.length.symm)
        have e2 : r' = #[] := Array.eq_empty_of_size_eq_zero (by simpa using hr'.length.symm)
        subst e1 e2
        have hrun : (do let d ← resolve ρ c o.type; invoke d.target d.args : Sem Next).run P w = (callFunc f' (c.args.map ρ)).run P w := by
         simp only [resolve, hf, hgv, Deferred.ofValue, Sem.run_bind, Sem.run_pure, Result.andThen_ok, invoke]
         simp
        unfold OROk at hk ⊢
        split at hk
        ·exact trivial
        ·obtain ⟨C', w', x, a1, a2, a3, a4⟩ := hk
         exact ⟨C', w', x, a1, a2, a3, by rw [hrun]; exact a4⟩
        ·rename_i t args hcall
         unfold cloneA at hcall
         split at hcall
         ·split at hcall <;> cases hcall
         ·cases hcall
     ·exact hfn
    ·exact hfn
   ·exact trivial
  ·exact trivial
 ·rename_i r name hr
  intro w0 C H w E ρ hR hρ
  dsimp only
  split
  ·rename_i t v hv
   split
   ·rename_i f hm
    split
    ·rename_i l hl
     split
     ·rename_i hc
      have hv' := hρ _ _ hv
      generalize hrv : ρ r = pv at hv'
      cases hv' with
      | @iface _ _ u hu =>
       refine ⟨u :: c.args.toList.map ρ, .cons hu (opds_spec hρ hl), .inl ⟨f, rfl, ?_⟩⟩
       have e1 : (#[Value.iface t u] ++ c.args.map ρ)[0]? = some (Value.iface t u) := by rw [Array.getElem?_append_left (by simp)]; rfl
       have e2 : (#[Value.iface t u] ++ c.args.map ρ).extract 1 (#[Value.iface t u] ++ c.args.map ρ).size = c.args.map ρ := by simp
       have e3 : (#[u] ++ c.args.map ρ) = (u :: c.args.toList.map ρ).toArray := by simp
       simp only [resolve, hr, hrv, Sem.run_bind, Sem.run_pure, Result.andThen_ok, invoke, e1, e2, callMethod, run_program, methodA_spec hm u, e3]
       exact run_callFunc hc _
     ·exact trivial
    ·exact trivial
   ·exact trivial
  ·exact trivial
theorem op_sound (P : Program) (o : Oper) : Sound P (compOp P o.op) (fun ρ => execOp ρ o) := by
 generalize ho : o.op = op
 cases op with
 | move x => exact Sound.congr (fun ρ => by simp [execOp, ho]) (move_sound P x)
 | assign x => exact Sound.congr (fun ρ => by simp [execOp, ho]) (move_sound P x)
 | pick c a b => exact Sound.congr (fun ρ => by simp [execOp, ho]) (pick_sound P c a b)
 | alloc t => exact Sound.congr (fun ρ => by simp only [execOp, ho]) (alloc_sound P t)
 | box t x => exact Sound.congr (fun ρ => by simp [execOp, ho]) (box_sound P t x)
 | build t ps => exact Sound.congr (fun ρ => by simp [execOp, ho]) (build_sound P t ps)
 | buildSlice t n ps => exact Sound.congr (fun ρ => by simp [execOp, ho]) (buildSlice_sound P t n ps)
 | load t a => exact Sound.congr (fun ρ => by simp [execOp, ho]) (load_sound P t a)
 | store t a x => exact Sound.congr (fun ρ => by simp [execOp, ho]) (store_sound P t a x)
 | nilCheck x => exact nilCheck_sound P x o ho
 | binOp op t x y yt => exact bin_sound P op t yt x y o ho
 | unOp op t x => exact un_sound P op t x o ho
 | convert s d x => exact Sound.congr (fun ρ => by simp [execOp, ho]) (conv_sound P s d x)
 | makeInterface t x => exact Sound.congr (fun ρ => by simp [execOp, ho]) (mkIface_sound P t x)
 | makeFunc f a b =>
  cases f with
  | yield l => exact stuck_sound P _
  | _ => exact Sound.congr (fun ρ => by simp [execOp, ho]) (mkFunc_sound P _ a b (fun l e => by cases e))
 | makeMap t r => exact Sound.congr (fun ρ => by simp [execOp, ho]) (mkMap_sound P t r)
 | makeSlice t l c => exact Sound.congr (fun ρ => by simp [execOp, ho]) (mkSlice_sound P t l c)
 | slice t x a b c => exact Sound.congr (fun ρ => by simp [execOp, ho]) (slice_sound P t x a b c)
 | fieldAddr t x f => exact Sound.congr (fun ρ => by simp [execOp, ho]) (fieldAddr_sound P t x f)
 | field t x f => exact Sound.congr (fun ρ => by simp [execOp, ho]) (field_sound P t x f)
 | indexAddr t x i => exact Sound.congr (fun ρ => by simp [execOp, ho]) (indexAddr_sound P t x i)
 | index t x i => exact Sound.congr (fun ρ => by simp [execOp, ho]) (index_sound P t x i)
 | lookup t x i ok => exact Sound.congr (fun ρ => by simp [execOp, ho]) (lookup_sound P t x i ok)
 | mapUpdate t m k x => exact Sound.congr (fun ρ => by simp [execOp, ho]) (mapUpdate_sound P t m k x)
 | insert t m k x => exact Sound.congr (fun ρ => by simp [execOp, ho]) (mapUpdate_sound P t m k x)
 | range t x => exact Sound.congr (fun ρ => by simp [execOp, ho]) (range_sound P t x)
 | next it s => exact Sound.congr (fun ρ => by simp [execOp, ho]) (next_sound P it s o.type)
 | typeAssert x t a ok => exact Sound.congr (fun ρ => by simp [execOp, ho]) (assert_sound P x t a ok)
 | extract t i => exact Sound.congr (fun ρ => by simp [execOp, ho]) (extract_sound P t i)
 | call c => exact call_sound P c o ho
 | _ => exact stuck_sound P _
end Go.Sv
namespace Go.Sv
open Go.RowKit (Below)
def CallSteps (P : Program) (w0 : World) (C : CM) (w : World) (t : Tgt) (vs : List Value) (v : AV) (H' : Heap) : Prop :=
 match t with
 | .fn f => ∀ cs, ∃ C' w' v' fr, C.le C' ∧ Rel w0 C' H' w' ∧ VR C' v v' ∧ Steps P (lone (Frame.enter P f vs.toArray .normal) cs w) (lone fr cs w') ∧ fr.fn = f ∧ fr.leaving P w' (.returned v')
 | .yield l => ∀ L, C l 0 = some L → ∀ c cs, ∃ C' w' v' f tm a b, C.le C' ∧ Rel w0 C' H' w' ∧ VR C' v v' ∧ (Instr.yield L.b vs.toArray).run P w = .ok (.round L.b f tm a b) w ∧
   Steps P (lone (Frame.round L.b f tm a b .normal) (c :: cs) w) (lone (c.finish v') cs w')
def SoundCall (P : Program) (c : CallT) : Prop :=
 ∀ w0 C H w t args vs v H', Rel w0 C H w → VRs C args vs → c t args H = .ok v H' → CallSteps P w0 C w t vs v H'
theorem noO_sound (P : Program) : SoundCall P noO := fun _ _ _ _ _ _ _ _ _ _ _ h => by cases h
noncomputable def putE (d : Option Tmp) (a : AV) (E : Tr AV) : Tr AV := match d with
 | none => E
 | some d => setP a (pathOf d) E
theorem putF_spec {n : Nat} {d : Option Tmp} {p : PutF} (h : putF n d = some p) : (∀ a E, p.run a E = putE d a E) ∧ ∀ t, d = some t → t < n := by
 unfold putF at h
 split at h
 ·cases h; exact ⟨fun _ _ => rfl, fun t e => by cases e⟩
 ·split at h
  ·rename_i hd; cases h; exact ⟨fun _ _ => rfl, fun t e => by cases e; exact hd⟩
  ·cases h
theorem ER.put {n : Nat} {C : CM} {E : Tr AV} {a : Act} (h : ER n C E a.tmps) {d : Option Tmp} (hd : ∀ t, d = some t → t < n) {av : AV} {x : Value} (hv : VR C av x) : ER n C (putE d av E) (a.put d x).tmps := by
 obtain ⟨h1, h2, h3⟩ := h
 cases d with
 | none => exact ⟨h1, h2, h3⟩
 | some d =>
  have hdn : (d : Nat) < n := hd d rfl
  refine ⟨by show (a.tmps.setIfInBounds d x).size = n; simpa using h1, h2, fun t ht => ?_⟩
  show OVR C (getP (pathOf t) (setP av (pathOf d) E)) ((a.tmps.setIfInBounds d x).getD t undef)
  rw [get_set]
  by_cases e : t = d
  ·subst e
   rw [if_pos rfl]
   have : (a.tmps.setIfInBounds t x).getD t undef = x := by
    rw [Array.getD_eq_getD_getElem?, Array.getElem?_setIfInBounds_self_of_lt (show t < a.tmps.size by rw [h1]; exact hdn)]; rfl
   rw [this]; exact hv
  ·rw [if_neg e]
   have : (a.tmps.setIfInBounds d x).getD t undef = a.tmps.getD t undef := by
    rw [Array.getD_eq_getD_getElem?, Array.getElem?_setIfInBounds_ne (fun q => e q.symm), ← Array.getD_eq_getD_getElem?]
   rw [this]; exact h3 t ht
theorem guardF_spec {n : Nat} {C : CM} {E : Tr AV} {tm : Array Value} (h : ER n C E tm) (ops : Array Oper) (o : Oper) : (guardF ops o).run E = Region.wanted o (yielded ops tm) := by
 obtain ⟨h1, h2, h3⟩ := h
 unfold guardF Region.wanted
 cases hg : o.guard with
 | none => rfl
 | some jw =>
  obtain ⟨j, want⟩ := jw
  dsimp only
  unfold yielded
  cases hd : (ops[j]?).bind (·.dst) with
  | none => rfl
  | some d =>
   dsimp only [Option.bind]
   split
   ·rename_i hle
    dsimp only
    have h3' := h3 d hle
    by_cases hdn : d < tm.size
    ·have e1 : tm[d]? = some tm[d] := Array.getElem?_eq_getElem hdn
     have e2 : tm.getD d undef = tm[d] := by rw [Array.getD_eq_getD_getElem?, e1]; rfl
     rw [e2] at h3'
     rw [e1]
     generalize tm[d] = v at h3'
     cases hq : getP (pathOf d) E with
     | none =>
      rw [hq] at h3'
      have : v = undef := h3'
      subst this
      rfl
     | some av =>
      rw [hq] at h3'
      have h4 : VR C av v := h3'
      cases h4 with
      | bool b => cases b <;> cases want <;> rfl
      | _ => rfl
    ·have e1 : tm[d]? = none := Array.getElem?_eq_none (Nat.le_of_not_lt hdn)
     have e2 : tm.getD d undef = undef := by rw [Array.getD_eq_getD_getElem?, e1]; rfl
     rw [e2] at h3'
     rw [e1]
     cases hq : getP (pathOf d) E with
     | none => rfl
     | some av =>
      rw [hq] at h3'
      have h4 : VR C av undef := h3'
      cases h4
      rfl
   ·rename_i hle
    have e1 : tm[d]? = none := Array.getElem?_eq_none (by rw [h1]; exact Nat.le_trans h2 (Nat.le_of_lt (Nat.lt_of_not_le hle)))
    rw [e1]
    rfl
section steps
variable {P : Program} {b : Frame} {a : Act} {k : List Item} {cs : List Frame} {w w' : World} {ops : Array Oper}
theorem fin_at {i : Nat} {rest : List Nat} {o : Oper} (ho : ops[i]? = some o) (v : Value) : (b.atR a (.inRegion ops (i :: rest) :: k)).finish v = b.atR (a.put o.dst v) (.inRegion ops rest :: k) := by
 rw [Frame.finish_atR, ho]; rfl
theorem step_val {i : Nat} {rest : List Nat} {o : Oper} {x : Value} (ho : ops[i]? = some o) (hw : Region.wanted o (yielded ops a.tmps) = true) (hd : ∀ c, o.op ≠ .defer c)
  (hr : (execOp a.eval o).run P w = .ok (.value x) w') :
  step P (lone (b.atR a (.inRegion ops (i :: rest) :: k)) cs w) = .next (lone (b.atR (a.put o.dst x) (.inRegion ops rest :: k)) cs w') := by
 refine step_lone_go ?_
 rw [stepGR_op (b := b) (k := k) (cs := cs) ho hw, Oper.semAt_eq _ _ _ hd, ← fin_at ho]
 simp [stepG.apply, Sem.runT_eq, hr]
theorem step_skp {i : Nat} {rest : List Nat} {o : Oper} (ho : ops[i]? = some o) (hw : Region.wanted o (yielded ops a.tmps) = true) (hd : ∀ c, o.op ≠ .defer c)
  (hr : (execOp a.eval o).run P w = .ok .skip w') :
  step P (lone (b.atR a (.inRegion ops (i :: rest) :: k)) cs w) = .next (lone (b.atR (a.put o.dst undef) (.inRegion ops rest :: k)) cs w') := by
 refine step_lone_go ?_
 rw [stepGR_op (b := b) (k := k) (cs := cs) ho hw, Oper.semAt_eq _ _ _ hd, ← fin_at ho]
 simp [stepG.apply, Sem.runT_eq, hr]
theorem step_enter {i : Nat} {rest : List Nat} {o : Oper} {f : Nat} {args : Array Value} (ho : ops[i]? = some o) (hw : Region.wanted o (yielded ops a.tmps) = true) (hd : ∀ c, o.op ≠ .defer c)
  (hr : (execOp a.eval o).run P w = .ok (.enter f args) w') :
  step P (lone (b.atR a (.inRegion ops (i :: rest) :: k)) cs w) = .next (lone (Frame.enter P f args .normal) (b.atR a (.inRegion ops (i :: rest) :: k) :: cs) w') := by
 refine step_lone_go ?_
 rw [stepGR_op (b := b) (k := k) (cs := cs) ho hw, Oper.semAt_eq _ _ _ hd]
 simp [stepG.apply, Sem.runT_eq, hr, Frame.atR]
theorem step_rnd {i : Nat} {rest : List Nat} {o : Oper} {l f : Nat} {tm : Array Value} {x y : Code} (ho : ops[i]? = some o) (hw : Region.wanted o (yielded ops a.tmps) = true) (hd : ∀ c, o.op ≠ .defer c)
  (hr : (execOp a.eval o).run P w = .ok (.round l f tm x y) w') :
  step P (lone (b.atR a (.inRegion ops (i :: rest) :: k)) cs w) = .next (lone (Frame.round l f tm x y .normal) (b.atR a (.inRegion ops (i :: rest) :: k) :: cs) w') := by
 refine step_lone_go ?_
 rw [stepGR_op (b := b) (k := k) (cs := cs) ho hw, Oper.semAt_eq _ _ _ hd]
 simp [stepG.apply, Sem.runT_eq, hr]
end steps
theorem not_defer {P : Program} {o : Oper} {E : Tr AV} {H : Heap} (h : (compOp P o.op).run E H ≠ .no) : ∀ c, o.op ≠ .defer c := by
 intro c e
 rw [e] at h
 exact h rfl
theorem oper_core {P : Program} {c : CallT} (hc : SoundCall P c) {n : Nat} {ops : Array Oper} {i : Nat} {o : Oper} (ho : ops[i]? = some o) {w0 : World} {C : CM} {H H' : Heap} {w : World} {E E' : Tr AV} {a : Act}
  (hR : Rel w0 C H w) (hE : ER n C E a.tmps) (h : (compOper P n ops o).run c E H = .ok E' H') (b : Frame) (rest : List Nat) (k : List Item) (cs : List Frame) :
  ∃ C' w' x av, C.le C' ∧ Rel w0 C' H' w' ∧ VR C' av x ∧ E' = putE o.dst av E ∧ (∀ t, o.dst = some t → t < n) ∧
   Steps P (lone (b.atR a (.inRegion ops (i :: rest) :: k)) cs w) (lone (b.atR (a.put o.dst x) (.inRegion ops rest :: k)) cs w') := by
 unfold compOper at h
 cases hp : putF n o.dst with
 | none => rw [hp] at h; cases h
 | some p =>
  rw [hp] at h
  dsimp only at h
  obtain ⟨hput, hlt⟩ := putF_spec hp
  have hg := guardF_spec hE ops o
  cases hgv : (guardF ops o).run E with
  | false =>
   rw [hgv] at h hg
   cases h
   refine ⟨C, w, undef, undefA, CM.le_refl C, hR, .tup .nil, hput _ _, hlt, .one ?_⟩
   have := stepR_op_skip (P := P) (b := b) (a := a) (k := k) (cs := cs) (w := w) (ops := ops) (i := i) (rest := rest) (by rw [ho]; simpa using hg.symm)
   rw [this, ho]; rfl
  | true =>
   rw [hgv] at h hg
   dsimp only at h
   have hw : Region.wanted o (yielded ops a.tmps) = true := hg.symm
   have hs := op_sound P o w0 C H w E a.eval hR (opd_spec hE)
   cases hr : (compOp P o.op).run E H with
   | no => rw [hr] at h; cases h
   | val v H2 =>
    rw [hr] at h hs
    cases h
    have hnd := not_defer (P := P) (o := o) (E := E) (H := H) (by rw [hr]; intro e; cases e)
    obtain ⟨C', w', x, h1, h2, h3, h4⟩ := hs
    rcases h4 with h4 | ⟨h4, rfl⟩
    ·exact ⟨C', w', x, v, h1, h2, h3, hput _ _, hlt, .one (step_val ho hw hnd h4)⟩
    ·exact ⟨C', w', undef, v, h1, h2, h3, hput _ _, hlt, .one (step_skp ho hw hnd h4)⟩
   | call t args =>
    rw [hr] at h hs
    dsimp only at h
    have hnd := not_defer (P := P) (o := o) (E := E) (H := H) (by rw [hr]; intro e; cases e)
    cases hcr : c t args H with
    | no => rw [hcr] at h; cases h
    | ok v H2 =>
     rw [hcr] at h
     cases h
     obtain ⟨vs, hv, hcase⟩ := hs
     have hcall := hc _ _ _ _ _ _ _ _ _ hR hv hcr
     rcases hcase with ⟨f, rfl, hrun⟩ | ⟨l, L, rfl, hL, hrun⟩
     ·obtain ⟨C', w', v', fr, h1, h2, h3, h4, h5, h6⟩ := hcall (b.atR a (.inRegion ops (i :: rest) :: k) :: cs)
      refine ⟨C', w', v', v, h1, h2, h3, hput _ _, hlt, .head (step_enter ho hw hnd hrun) (Steps.trans h4 (.one ?_))⟩
      rw [step_leave_returned h6, fin_at ho]
     ·obtain ⟨C', w', v', f, tm, x, y, h1, h2, h3, h4, h5⟩ := hcall L hL (b.atR a (.inRegion ops (i :: rest) :: k)) cs
      rw [h4] at hrun
      refine ⟨C', w', v', v, h1, h2, h3, hput _ _, hlt, .head (step_rnd ho hw hnd hrun) ?_⟩
      rw [← fin_at ho]; exact h5
theorem ops_sound {P : Program} {c : CallT} (hc : SoundCall P c) {n : Nat} {ops : Array Oper} (b : Frame) (k : List Item) (cs : List Frame) : ∀ (l : List Oper) (i : Nat), ops.toList.drop i = l →
  ∀ {w0 : World} {C : CM} {H H' : Heap} {w : World} {E E' : Tr AV} {a : Act}, Rel w0 C H w → ER n C E a.tmps → (compOps P n ops l).run c E H = .ok E' H' →
  ∃ C' w' a', C.le C' ∧ Rel w0 C' H' w' ∧ ER n C' E' a'.tmps ∧ a'.defers = a.defers ∧
   Steps P (lone (b.atR a (.inRegion ops (List.range' i l.length) :: k)) cs w) (lone (b.atR a' (.inRegion ops [] :: k)) cs w')
 | [], i, hl, w0, C, H, H', w, E, E', a, hR, hE, h => by
  cases h
  exact ⟨C, w, a, CM.le_refl C, hR, hE, rfl, .refl _ _⟩
 | o :: l, i, hl, w0, C, H, H', w, E, E', a, hR, hE, h => by
  have hi : i < ops.toList.length := by
   rcases Nat.lt_or_ge i ops.toList.length with h' | h'
   ·exact h'
   ·rw [List.drop_eq_nil_of_le h'] at hl; cases hl
  rw [List.drop_eq_getElem_cons hi] at hl
  injection hl with ho hl
  have ho' : ops[i]? = some o := by rw [← ho]; simp at hi ⊢
  unfold compOps at h
  dsimp only at h
  cases h1 : (compOper P n ops o).run c E H with
  | no => rw [h1] at h; cases h
  | ok E1 H1 =>
   rw [h1] at h
   dsimp only at h
   obtain ⟨C1, w1, x, av, q1, q2, q3, q4, q5, q6⟩ := oper_core hc ho' hR hE h1 b (List.range' (i + 1) l.length) k cs
   subst q4
   obtain ⟨C2, w2, a2, r1, r2, r3, r4, r5⟩ := ops_sound hc b k cs l (i + 1) hl (a := a.put o.dst x) q2 ((hE.mono q1).put q5 q3) h
   refine ⟨C2, w2, a2, CM.le_trans q1 r1, r2, r3, ?_, ?_⟩
   ·rw [r4]; cases o.dst <;> rfl
   ·rw [show (o :: l).length = l.length + 1 from rfl, List.range'_succ]
    exact Steps.trans q6 r5
end Go.Sv
namespace Go.Sv
def Same (ts : List Nat) (E' E : Tr AV) : Prop := ∀ t ∈ ts, t ≤ lim → getP (pathOf t) E' = getP (pathOf t) E
theorem opd_cong {x : Operand} {E E' : Tr AV} (h : Same (tmpsOf [x]) E' E) : (opd x).run E' = (opd x).run E := by
 cases x with
 | tmp t =>
  unfold opd
  dsimp only
  split
  ·rename_i hle
   dsimp only
   rw [h t (by simp [tmpsOf]) (Nat.le_of_ble_eq_true hle)]
  ·rfl
 | const v => unfold opd; dsimp only; split <;> rfl
 | func f => rfl
 | global g => rfl
theorem Same.opds : ∀ {l : List Operand} {E E' : Tr AV}, Same (tmpsOf l) E' E → ∀ x ∈ l, (opd x).run E' = (opd x).run E
 | [], _, _, _, x, hx => by cases hx
 | y :: l, E, E', h, x, hx => by
  rcases List.mem_cons.1 hx with rfl | hx
  ·refine opd_cong (fun t ht => h t ?_)
   cases x <;> simp_all [tmpsOf]
  ·refine Same.opds (l := l) (fun t ht => h t ?_) x hx
   cases y <;> simp_all [tmpsOf]
section cong
variable {E E' : Tr AV} {H : Heap}
theorem opds_cong : ∀ {l : List Operand}, (∀ x ∈ l, (opd x).run E' = (opd x).run E) → (opds l).run E' = (opds l).run E
 | [], _ => rfl
 | x :: l, h => by
  simp only [opds]
  rw [h x (by simp), opds_cong (fun y hy => h y (by simp [hy]))]
theorem unary1_cong {x : Operand} {f : Heap → AV → OR} (h : (opd x).run E' = (opd x).run E) : (unary1 x f).run E' H = (unary1 x f).run E H := by
 simp only [unary1]; rw [h]
theorem binary2_cong {x y : Operand} {f : Heap → AV → AV → OR} (h : (opd x).run E' = (opd x).run E) (k : (opd y).run E' = (opd y).run E) : (binary2 x y f).run E' H = (binary2 x y f).run E H := by
 simp only [binary2]; rw [h, k]
theorem optF_cong {x : Option Operand} (h : ∀ y, x = some y → (opd y).run E' = (opd y).run E) : (optF x).run E' = (optF x).run E := by
 cases x with
 | none => rfl
 | some y => simp only [optF]; rw [h y rfl]
theorem fillA_cong : ∀ {ps : List Part} {cs : List AV}, (∀ p ∈ ps, p.v.run E' = p.v.run E) → fillA cs ps E' = fillA cs ps E
 | [], _, _ => rfl
 | p :: ps, cs, h => by
  simp only [fillA]
  rw [h p (by simp)]
  split
  ·rfl
  ·split
   ·rfl
   ·split
    ·split
     ·exact fillA_cong (fun q hq => h q (by simp [hq]))
     ·rfl
    ·rfl
theorem partsAt_cong {place : Nat → Option (Nat × Nat)} : ∀ {l : List (Nat × Operand)} {ps : List Part}, partsAt place l = some ps → (∀ x ∈ l.map (·.2), (opd x).run E' = (opd x).run E) → ∀ p ∈ ps, p.v.run E' = p.v.run E
 | [], ps, h, _, p, hp => by cases h; cases hp
 | (i, x) :: l, ps, h, hx, p, hp => by
  simp only [partsAt] at h
  split at h
  ·cases h
  ·split at h
   ·cases h
   ·rename_i r hr
    cases h
    rcases List.mem_cons.1 hp with rfl | hp
    ·exact hx x (by simp)
    ·exact partsAt_cong hr (fun y hy => hx y (by simp at hy ⊢; exact .inr hy)) p hp
end cong
theorem callF_cong {P : Program} {c : Call} {E E' : Tr AV} {H : Heap} (h : ∀ x ∈ c.operands.toList, (opd x).run E' = (opd x).run E) : (callF P c).run E' H = (callF P c).run E H := by
 have ha : ∀ x ∈ c.args.toList, (opd x).run E' = (opd x).run E := fun x hx => h x (by simp [Call.operands] at hx ⊢; exact .inr hx)
 unfold callF
 split
 ·split
  ·split
   ·rename_i q; rw [q] at ha; unfold lenF; split <;> first | rfl | exact unary1_cong (ha _ (by simp))
   ·rfl
  ·split
   ·rename_i q; rw [q] at ha; unfold capF; split <;> first | rfl | exact unary1_cong (ha _ (by simp))
   ·rfl
  ·simp only [maxF]; rw [opds_cong ha]
  ·simp only [maxF]; rw [opds_cong ha]
  ·unfold appendF
   split
   ·rename_i q; rw [q] at ha
    split
    ·unfold appendZ; split
     ·split
      ·exact binary2_cong (ha _ (by simp)) (ha _ (by simp))
      ·rfl
     ·rfl
    ·unfold appendG; split
     ·split
      ·exact binary2_cong (ha _ (by simp)) (ha _ (by simp))
      ·rfl
     ·rfl
    ·unfold appendG; split
     ·split
      ·exact binary2_cong (ha _ (by simp)) (ha _ (by simp))
      ·rfl
     ·rfl
    ·rfl
   ·rfl
  ·unfold copyF
   split
   ·rename_i q; rw [q] at ha
    split
    ·split
     ·rfl
     ·split
      ·exact binary2_cong (ha _ (by simp)) (ha _ (by simp))
      ·rfl
    ·rfl
   ·rfl
  ·unfold clearF
   split
   ·rename_i q; rw [q] at ha
    split
    ·split
     ·split
      ·exact unary1_cong (ha _ (by simp))
      ·rfl
     ·rfl
    ·rfl
   ·rfl
  ·unfold deleteF
   split
   ·rename_i q; rw [q] at ha
    split
    ·split
     ·exact binary2_cong (ha _ (by simp)) (ha _ (by simp))
     ·rfl
    ·rfl
   ·rfl
  ·rfl
 ·rename_i f q
  have hf : (opd f).run E' = (opd f).run E := h f (by simp [Call.operands, q])
  dsimp only
  rw [hf, opds_cong ha]
 ·rename_i r nm q
  have hf : (opd r).run E' = (opd r).run E := h r (by simp [Call.operands, q])
  dsimp only
  rw [hf, opds_cong ha]
theorem compOp_cong {P : Program} {o : Op} {E E' : Tr AV} {H : Heap} (h : ∀ x ∈ o.operands.toList, (opd x).run E' = (opd x).run E) : (compOp P o).run E' H = (compOp P o).run E H := by
 unfold compOp
 split
 ·exact unary1_cong (h _ (by simp [Op.operands]))
 ·exact unary1_cong (h _ (by simp [Op.operands]))
 ·rename_i c a b
  dsimp only
  rw [h c (by simp [Op.operands]), h a (by simp [Op.operands]), h b (by simp [Op.operands])]
 ·split <;> rfl
 ·exact unary1_cong (h _ (by simp [Op.operands]))
 ·rename_i t parts
  have hp : ∀ x ∈ parts.toList.map (·.2), (opd x).run E' = (opd x).run E := fun x hx => h x (by simpa [Op.operands] using hx)
  unfold buildF
  split
  ·rfl
  ·split
   ·split
    ·rfl
    ·split
     ·rfl
     ·rename_i q; dsimp only; rw [fillA_cong (partsAt_cong q hp)]
   ·split
    ·rfl
    ·split
     ·rfl
     ·rename_i q; dsimp only; rw [fillA_cong (partsAt_cong q hp)]
   ·rfl
 ·rename_i t len parts
  have hp : ∀ x ∈ parts.toList.map (·.2), (opd x).run E' = (opd x).run E := fun x hx => h x (by simpa [Op.operands] using hx)
  unfold buildSliceF
  split
  ·split
   ·rfl
   ·split
    ·rfl
    ·split
     ·split
      ·rfl
      ·rename_i q; dsimp only; rw [fillA_cong (partsAt_cong q hp)]
     ·rfl
  ·rfl
 ·unfold loadF; split <;> first | rfl | exact unary1_cong (h _ (by simp [Op.operands]))
 ·unfold storeF; split <;> first | rfl | exact binary2_cong (h _ (by simp [Op.operands])) (h _ (by simp [Op.operands]))
 ·exact unary1_cong (h _ (by simp [Op.operands]))
 ·exact binary2_cong (h _ (by simp [Op.operands])) (h _ (by simp [Op.operands]))
 ·exact unary1_cong (h _ (by simp [Op.operands]))
 ·unfold convF
  split
  ·exact unary1_cong (h _ (by simp [Op.operands]))
  ·split <;> first | rfl | exact unary1_cong (h _ (by simp [Op.operands]))
  ·exact unary1_cong (h _ (by simp [Op.operands]))
  ·split <;> first | rfl | exact unary1_cong (h _ (by simp [Op.operands]))
  ·rfl
 ·unfold mkIfaceF; split <;> first | rfl | exact unary1_cong (h _ (by simp [Op.operands]))
 ·rename_i f first cap
  split
  ·rfl
  ·simp only [mkFuncF]
   rw [opds_cong (l := first.toList) (fun x hx => h x (by simp [Op.operands] at hx ⊢; exact .inl hx)), opds_cong (l := cap.toList) (fun x hx => h x (by simp [Op.operands] at hx ⊢; exact .inr hx))]
 ·unfold mkMapF
  split
  ·rfl
  ·split <;> first | rfl | exact unary1_cong (h _ (by simp [Op.operands]))
 ·unfold mkSliceF
  split
  ·split
   ·rfl
   ·split
    ·rfl
    ·split
     ·exact binary2_cong (h _ (by simp [Op.operands])) (h _ (by simp [Op.operands]))
     ·rfl
  ·rfl
 ·rename_i t x lo hi mx
  have h1 := h x (by simp [Op.operands])
  have h2 : (optF lo).run E' = (optF lo).run E := optF_cong (fun y e => h y (by simp [Op.operands, e]))
  have h3 : (optF hi).run E' = (optF hi).run E := optF_cong (fun y e => h y (by simp [Op.operands, e]))
  have h4 : (optF mx).run E' = (optF mx).run E := optF_cong (fun y e => h y (by simp [Op.operands, e]))
  unfold sliceF
  split
  ·split
   ·rfl
   ·dsimp only; rw [h1, h2, h3]
  ·split
   ·rfl
   ·split
    ·rfl
    ·dsimp only; rw [h1, h2, h3, h4]
  ·split
   ·rfl
   ·split
    ·rfl
    ·dsimp only; rw [h1, h2, h3, h4]
  ·rfl
 ·unfold fieldAddrF
  split
  ·split
   ·rfl
   ·split <;> first | rfl | exact unary1_cong (h _ (by simp [Op.operands]))
  ·rfl
 ·unfold fieldF
  split
  ·split
   ·rfl
   ·split <;> first | rfl | exact unary1_cong (h _ (by simp [Op.operands]))
  ·rfl
 ·unfold indexAddrF
  split
  ·split
   ·rfl
   ·exact binary2_cong (h _ (by simp [Op.operands])) (h _ (by simp [Op.operands]))
  ·split
   ·rfl
   ·exact binary2_cong (h _ (by simp [Op.operands])) (h _ (by simp [Op.operands]))
  ·rfl
 ·unfold indexF
  split
  ·exact binary2_cong (h _ (by simp [Op.operands])) (h _ (by simp [Op.operands]))
  ·split
   ·exact binary2_cong (h _ (by simp [Op.operands])) (h _ (by simp [Op.operands]))
   ·rfl
  ·rfl
 ·unfold lookupF
  split
  ·split
   ·exact binary2_cong (h _ (by simp [Op.operands])) (h _ (by simp [Op.operands]))
   ·rfl
  ·rfl
 ·rename_i t m k x
  unfold mapUpdateF
  split
  ·split
   ·dsimp only; rw [h m (by simp [Op.operands]), h k (by simp [Op.operands]), h x (by simp [Op.operands])]
   ·rfl
  ·rfl
 ·rename_i t m k x
  unfold mapUpdateF
  split
  ·split
   ·dsimp only; rw [h m (by simp [Op.operands]), h k (by simp [Op.operands]), h x (by simp [Op.operands])]
   ·rfl
  ·rfl
 ·unfold rangeF; split <;> first | rfl | exact unary1_cong (h _ (by simp [Op.operands]))
 ·unfold nextF; split <;> first | rfl | exact unary1_cong (h _ (by simp [Op.operands]))
 ·unfold assertF
  split
  ·rfl
  ·split
   ·rfl
   ·exact unary1_cong (h _ (by simp [Op.operands]))
  ·rfl
 ·exact unary1_cong (h _ (by simp [Op.operands]))
 ·exact callF_cong (fun x hx => h x (by simpa [Op.operands] using hx))
 ·rfl
theorem guardF_cong {ops : Array Oper} {o : Oper} {E E' : Tr AV} (h : Same (looks ops o) E' E) : (guardF ops o).run E' = (guardF ops o).run E := by
 unfold guardF
 split
 ·rfl
 ·rename_i j want hg
  split
  ·rfl
  ·rename_i d hd
   split
   ·rename_i hle
    dsimp only
    rw [h d (by simp [looks, hg, hd]) hle]
   ·rfl
end Go.Sv
namespace Go.Sv
inductive QR (H H2 : Heap) : OR → OR → Prop where
 | no : QR H H2 .no .no
 | val (v : AV) : QR H H2 (.val v H) (.val v H2)
def Quiet (F : OpF) : Prop := ∀ E H H2, QR H H2 (F.run E H) (F.run E H2)
inductive RR (H : Heap) : OR → Prop where
 | no : RR H .no
 | val (v : AV) : RR H (.val v H)
def Reads (F : OpF) : Prop := ∀ E H, RR H (F.run E H)
theorem Quiet.reads {F : OpF} (h : Quiet F) : Reads F := fun E H => by
 have := h E H H
 generalize F.run E H = r at this
 cases this with
 | no => exact .no
 | val v => exact .val v
theorem quiet_stuck : Quiet stuckF := fun _ _ _ => .no
theorem reads_stuck : Reads stuckF := fun _ _ => .no
theorem QR.ret1 {H H2 : Heap} (o : Option AV) : QR H H2 (ret1 H o) (Sv.ret1 H2 o) := by cases o <;> constructor
theorem RR.ret1 {H : Heap} (o : Option AV) : RR H (Sv.ret1 H o) := by cases o <;> constructor
theorem quiet_unary {x : Operand} {f : Heap → AV → OR} (h : ∀ a H H2, QR H H2 (f H a) (f H2 a)) : Quiet (unary1 x f) := fun E H H2 => by
 simp only [unary1]
 cases (opd x).run E with
 | none => exact .no
 | some a => exact h a H H2
theorem quiet_binary {x y : Operand} {f : Heap → AV → AV → OR} (h : ∀ a b H H2, QR H H2 (f H a b) (f H2 a b)) : Quiet (binary2 x y f) := fun E H H2 => by
 simp only [binary2]
 cases (opd x).run E with
 | none => exact .no
 | some a =>
  cases (opd y).run E with
  | none => exact .no
  | some b => exact h a b H H2
theorem reads_unary {x : Operand} {f : Heap → AV → OR} (h : ∀ a H, RR H (f H a)) : Reads (unary1 x f) := fun E H => by
 simp only [unary1]
 cases (opd x).run E with
 | none => exact .no
 | some a => exact h a H
theorem reads_binary {x y : Operand} {f : Heap → AV → AV → OR} (h : ∀ a b H, RR H (f H a b)) : Reads (binary2 x y f) := fun E H => by
 simp only [binary2]
 cases (opd x).run E with
 | none => exact .no
 | some a =>
  cases (opd y).run E with
  | none => exact .no
  | some b => exact h a b H
theorem quiet_build (P : Program) (t : TypeId) (parts : Array (Nat × Operand)) : Quiet (buildF P t parts) := by
 unfold buildF
 split
 ·exact quiet_stuck
 ·split
  ·split
   ·exact quiet_stuck
   ·split
    ·exact quiet_stuck
    ·intro E H H2
     dsimp only
     split
     ·exact .val _
     ·exact .no
  ·split
   ·exact quiet_stuck
   ·split
    ·exact quiet_stuck
    ·intro E H H2
     dsimp only
     split
     ·exact .val _
     ·exact .no
  ·exact quiet_stuck
theorem quiet_nilCheck (H H2 : Heap) (a : AV) : QR H H2 (nilCheckA H a) (nilCheckA H2 a) := by
 unfold nilCheckA
 split <;> constructor
theorem quiet_mkIface (P : Program) (t : TypeId) (x : Operand) : Quiet (mkIfaceF P t x) := by
 unfold mkIfaceF
 split
 ·exact quiet_stuck
 ·exact quiet_unary fun a H H2 => .val _
 ·exact quiet_stuck
theorem quiet_mkFunc (f : Fn) (x y : Array Operand) : Quiet (mkFuncF f x y) := fun E H H2 => by
 simp only [mkFuncF]
 split
 ·split <;> constructor
 ·exact .no
theorem quiet_fieldAddr (P : Program) (s : TypeId) (x : Operand) (f : Nat) : Quiet (fieldAddrF P s x f) := by
 unfold fieldAddrF
 split
 ·split
  ·exact quiet_stuck
  ·split
   ·exact quiet_stuck
   ·exact quiet_stuck
   ·exact quiet_unary fun a H H2 => by split <;> constructor
 ·exact quiet_stuck
theorem quiet_field (P : Program) (s : TypeId) (x : Operand) (f : Nat) : Quiet (fieldF P s x f) := by
 unfold fieldF
 split
 ·split
  ·exact quiet_stuck
  ·split
   ·exact quiet_unary fun a H H2 => by
     split
     ·exact .ret1 _
     ·exact .no
   ·exact quiet_stuck
 ·exact quiet_stuck
theorem quiet_indexAddr (P : Program) (t : TypeId) (x ix : Operand) : Quiet (indexAddrF P t x ix) := by
 unfold indexAddrF
 split
 ·split
  ·exact quiet_stuck
  ·refine quiet_binary fun a b H H2 => ?_
   split
   ·rename_i len esz _ _ n
    cases Nat.blt n len
    ·exact .no
    ·dsimp only
     split <;> constructor
   ·exact .no
 ·split
  ·exact quiet_stuck
  ·refine quiet_binary fun a b H H2 => ?_
   split
   ·split <;> constructor
   ·exact .no
 ·exact quiet_stuck
theorem quiet_index (P : Program) (t : TypeId) (x ix : Operand) : Quiet (indexF P t x ix) := by
 unfold indexF
 split
 ·refine quiet_binary fun a b H H2 => ?_
  split
  ·split <;> constructor
  ·exact .no
 ·split
  ·refine quiet_binary fun a b H H2 => ?_
   split
   ·split
    ·exact .ret1 _
    ·exact .no
   ·exact .no
  ·exact quiet_stuck
 ·exact quiet_stuck
theorem quiet_assert (P : Program) (x : Operand) (t : TypeId) (ok : Bool) : Quiet (assertF P x t ok) := by
 unfold assertF
 split
 ·exact quiet_stuck
 ·split
  ·exact quiet_stuck
  ·refine quiet_unary fun a H H2 => ?_
   split
   ·cases ok <;> constructor
   ·split
    ·constructor
    ·cases ok <;> constructor
   ·exact .no
 ·exact quiet_stuck
theorem quiet_extract (x : Operand) (i : Nat) : Quiet (extractF x i) := quiet_unary fun a H H2 => by
 split
 ·exact .ret1 _
 ·exact .no
theorem quiet_slice {P : Program} {t : TypeId} {x : Operand} {lo hi mx : Option Operand} (h : isArrT P t = false) : Quiet (sliceF P t x lo hi mx) := by
 unfold sliceF
 split
 ·split
  ·exact quiet_stuck
  ·intro E H H2
   dsimp only
   split
   ·split
    ·split <;> constructor
    ·exact .no
   ·exact .no
 ·split
  ·exact quiet_stuck
  ·split
   ·exact quiet_stuck
   ·intro E H H2
    dsimp only
    split
    ·exact .ret1 _
    ·split <;> constructor
    ·split <;> constructor
    ·exact .no
 ·rename_i q
  simp [isArrT, q] at h
 ·exact quiet_stuck
theorem reads_slice (P : Program) (t : TypeId) (x : Operand) (lo hi mx : Option Operand) : Reads (sliceF P t x lo hi mx) := by
 cases hq : isArrT P t
 ·exact (quiet_slice hq).reads
 ·unfold isArrT at hq
  unfold sliceF
  split at hq
  ·rename_i q
   rw [q]
   dsimp only
   split
   ·exact reads_stuck
   ·split
    ·exact reads_stuck
    ·intro E H
     dsimp only
     split
     ·split
      ·split
       ·split
        ·exact .ret1 _
        ·exact .no
       ·exact .no
      ·exact .no
     ·exact .no
  ·cases hq
theorem quiet_conv {P : Program} {s d : TypeId} {x : Operand} (hd : isSlT P d = false) (hs : isSlT P s = false) : Quiet (convF P s d x) := by
 unfold convF
 split
 ·exact quiet_unary fun a H H2 => by split <;> constructor
 ·rename_i q _; simp [isSlT, q] at hs
 ·exact quiet_unary fun a H H2 => by split <;> constructor
 ·rename_i q; simp [isSlT, q] at hd
 ·exact quiet_stuck
theorem reads_conv {P : Program} {s d : TypeId} {x : Operand} (hd : isSlT P d = false) : Reads (convF P s d x) := by
 unfold convF
 split
 ·exact reads_unary fun a H => by split <;> constructor
 ·split
  ·refine reads_unary fun a H => ?_
   split
   ·exact .val _
   ·split
    ·split <;> constructor
    ·exact .no
   ·exact .no
  ·exact reads_stuck
 ·exact reads_unary fun a H => by split <;> constructor
 ·rename_i q; simp [isSlT, q] at hd
 ·exact reads_stuck
theorem reads_load (P : Program) (t : TypeId) (x : Operand) : Reads (loadF P t x) := by
 unfold loadF
 split
 ·exact reads_unary fun a H => by
   split
   ·split <;> constructor
   ·exact .no
 ·exact reads_unary fun a H => by
   split
   ·split <;> constructor
   ·exact .no
 ·exact reads_stuck
theorem reads_lookup (P : Program) (t : TypeId) (x ix : Operand) (ok : Bool) : Reads (lookupF P t x ix ok) := by
 unfold lookupF
 split
 ·split
  ·refine reads_binary fun a b H => ?_
   split
   ·exact .no
   ·split <;> constructor
  ·exact reads_stuck
 ·exact reads_stuck
theorem quiet_len {P : Program} {t : TypeId} {x : Operand} (h : isMapT P t = false) : Quiet (lenF P t x) := by
 unfold lenF
 split
 ·exact quiet_unary fun a H H2 => by split <;> constructor
 ·exact quiet_unary fun a H H2 => by split <;> constructor
 ·rename_i q; simp [isMapT, q] at h
 ·exact quiet_unary fun a H H2 => .val _
 ·exact quiet_stuck
theorem reads_len (P : Program) (t : TypeId) (x : Operand) : Reads (lenF P t x) := by
 cases hq : isMapT P t
 ·exact (quiet_len hq).reads
 ·unfold isMapT at hq
  unfold lenF
  split at hq
  ·rename_i q
   rw [q]
   refine reads_unary fun a H => ?_
   split
   ·exact .val _
   ·split <;> constructor
   ·exact .no
  ·cases hq
theorem quiet_cap (P : Program) (t : TypeId) (x : Operand) : Quiet (capF P t x) := by
 unfold capF
 split
 ·exact quiet_unary fun a H H2 => by split <;> constructor
 ·exact quiet_stuck
theorem quiet_max (mx : Bool) (l : List Operand) : Quiet (maxF mx l) := fun E H H2 => by
 simp only [maxF]
 split
 ·exact .ret1 _
 ·exact .no
theorem clsCall_spec {P : Program} {c : Call} : (clsCall P c = .quiet → Quiet (callF P c)) ∧ (clsCall P c = .rd → Reads (callF P c)) := by
 unfold clsCall callF
 split
 ·rename_i q
  rw [q]
  dsimp only
  split
  ·rename_i t ht
   rw [ht]
   split
   ·rename_i hm
    exact ⟨fun h => (by cases h), fun _ => by
     split
     ·exact reads_len _ _ _
     ·exact reads_stuck⟩
   ·rename_i hm
    refine ⟨fun _ => ?_, fun h => by cases h⟩
    split
    ·rename_i e _ ; cases e; exact quiet_len (by simpa using hm)
    ·exact quiet_stuck
  ·exact ⟨fun h => (by cases h), fun h => by cases h⟩
 ·rename_i q
  rw [q]
  refine ⟨fun _ => ?_, fun h => by cases h⟩
  dsimp only
  split
  ·exact quiet_cap _ _ _
  ·exact quiet_stuck
 ·rename_i q
  rw [q]
  exact ⟨fun _ => quiet_max _ _, fun h => by cases h⟩
 ·rename_i q
  rw [q]
  exact ⟨fun _ => quiet_max _ _, fun h => by cases h⟩
 ·exact ⟨fun h => (by cases h), fun h => by cases h⟩
theorem cls_spec {P : Program} {o : Op} : (cls P o = .quiet → Quiet (compOp P o)) ∧ (cls P o = .rd → Reads (compOp P o)) := by
 unfold cls
 split
 ·exact ⟨fun _ => quiet_unary fun a H H2 => .val _, fun h => by cases h⟩
 ·exact ⟨fun _ => quiet_unary fun a H H2 => .val _, fun h => by cases h⟩
 ·refine ⟨fun _ E H H2 => ?_, fun h => by cases h⟩
  simp only [compOp]
  split
  ·exact .ret1 _
  ·exact .ret1 _
  ·exact .no
 ·exact ⟨fun _ => quiet_build _ _ _, fun h => by cases h⟩
 ·exact ⟨fun _ => quiet_unary fun a H H2 => quiet_nilCheck _ _ _, fun h => by cases h⟩
 ·exact ⟨fun _ => quiet_binary fun a b H H2 => .ret1 _, fun h => by cases h⟩
 ·exact ⟨fun _ => quiet_unary fun a H H2 => .ret1 _, fun h => by cases h⟩
 ·exact ⟨fun _ => quiet_mkIface _ _ _, fun h => by cases h⟩
 ·rename_i f x y
  refine ⟨fun _ => ?_, fun h => by cases h⟩
  simp only [compOp]
  split
  ·exact quiet_stuck
  ·exact quiet_mkFunc _ _ _
 ·exact ⟨fun _ => quiet_fieldAddr _ _ _ _, fun h => by cases h⟩
 ·exact ⟨fun _ => quiet_field _ _ _ _, fun h => by cases h⟩
 ·exact ⟨fun _ => quiet_indexAddr _ _ _ _, fun h => by cases h⟩
 ·exact ⟨fun _ => quiet_index _ _ _ _, fun h => by cases h⟩
 ·exact ⟨fun _ => quiet_assert _ _ _ _, fun h => by cases h⟩
 ·exact ⟨fun _ => quiet_extract _ _, fun h => by cases h⟩
 ·split
  ·exact ⟨fun h => (by cases h), fun _ => reads_slice _ _ _ _ _ _⟩
  ·rename_i h
   exact ⟨fun _ => quiet_slice (by simpa using h), fun h => by cases h⟩
 ·split
  ·exact ⟨fun h => (by cases h), fun h => by cases h⟩
  ·rename_i hd
   split
   ·exact ⟨fun h => (by cases h), fun _ => reads_conv (by simpa using hd)⟩
   ·rename_i hs
    exact ⟨fun _ => quiet_conv (by simpa using hd) (by simpa using hs), fun h => by cases h⟩
 ·exact ⟨fun h => (by cases h), fun _ => reads_load _ _ _⟩
 ·exact ⟨fun h => (by cases h), fun _ => reads_lookup _ _ _ _ _⟩
 ·exact clsCall_spec
 all_goals exact ⟨fun h => (by cases h), fun h => by cases h⟩
theorem compOper_shape {P : Program} {n : Nat} {ops : Array Oper} {o : Oper} {k : CallT} {E E1 : Tr AV} {H H1 : Heap} (h : (compOper P n ops o).run k E H = .ok E1 H1) :
  ∃ v, E1 = putE o.dst v E ∧ (∀ d, o.dst = some d → d < n) ∧ ∀ E', Same (looks ops o) E' E → (compOper P n ops o).run k E' H = .ok (putE o.dst v E') H1 := by
 unfold compOper at h ⊢
 cases hp : putF n o.dst with
 | none => rw [hp] at h; cases h
 | some p =>
  rw [hp] at h
  dsimp only at h ⊢
  obtain ⟨hput, hlt⟩ := putF_spec hp
  have hcg : ∀ E', Same (looks ops o) E' E → (compOp P o.op).run E' H = (compOp P o.op).run E H := fun E' hs =>
   compOp_cong (Same.opds (fun t ht => hs t (by simp [looks, ht])))
  cases hg : (guardF ops o).run E with
  | false =>
   rw [hg] at h
   cases h
   refine ⟨undefA, hput _ _, hlt, fun E' hs => ?_⟩
   rw [guardF_cong hs, hg]
   dsimp only
   rw [hput]
  | true =>
   rw [hg] at h
   dsimp only at h
   cases hr : (compOp P o.op).run E H with
   | no => rw [hr] at h; cases h
   | val v H2 =>
    rw [hr] at h
    cases h
    refine ⟨v, hput _ _, hlt, fun E' hs => ?_⟩
    rw [guardF_cong hs, hg, hcg E' hs, hr]
    dsimp only
    rw [hput]
   | call t args =>
    rw [hr] at h
    dsimp only at h
    cases hc : k t args H with
    | no => rw [hc] at h; cases h
    | ok v H2 =>
     rw [hc] at h
     cases h
     refine ⟨v, hput _ _, hlt, fun E' hs => ?_⟩
     rw [guardF_cong hs, hg, hcg E' hs, hr]
     dsimp only
     rw [hc]
     dsimp only
     rw [hput]
theorem compOper_reads {P : Program} {n : Nat} {ops : Array Oper} {o : Oper} {k : CallT} {E E1 : Tr AV} {H H1 : Heap} (hq : Reads (compOp P o.op)) (h : (compOper P n ops o).run k E H = .ok E1 H1) : H1 = H := by
 unfold compOper at h
 cases hp : putF n o.dst with
 | none => rw [hp] at h; cases h
 | some p =>
  rw [hp] at h
  dsimp only at h
  cases hg : (guardF ops o).run E with
  | false => rw [hg] at h; cases h; rfl
  | true =>
   rw [hg] at h
   dsimp only at h
   have hr := hq E H
   generalize (compOp P o.op).run E H = r at h hr
   cases hr with
   | no => cases h
   | val v => cases h; rfl
theorem compOper_quiet {P : Program} {n : Nat} {ops : Array Oper} {o : Oper} {k : CallT} {E E1 : Tr AV} {H H1 : Heap} (hq : Quiet (compOp P o.op)) (h : (compOper P n ops o).run k E H = .ok E1 H1) (H2 : Heap) :
  (compOper P n ops o).run k E H2 = .ok E1 H2 := by
 unfold compOper at h ⊢
 cases hp : putF n o.dst with
 | none => rw [hp] at h; cases h
 | some p =>
  rw [hp] at h
  dsimp only at h ⊢
  cases hg : (guardF ops o).run E with
  | false => rw [hg] at h; cases h; rfl
  | true =>
   rw [hg] at h
   dsimp only at h ⊢
   have hr := hq E H H2
   generalize (compOp P o.op).run E H = r at h hr
   generalize (compOp P o.op).run E H2 = r2 at hr ⊢
   cases hr with
   | no => cases h
   | val v => cases h; rfl
end Go.Sv
namespace Go.Sv
theorem eqAV_spec : ∀ (n : Nat) (a b : AV), eqAV n a b = true → a = b
 | 0, _, _, h => by cases h
 | n + 1, a, b, h => by
  have hl : ∀ (x y : List AV), eqL (eqAV n) x y = true → x = y := by
   intro x
   induction x with
   | nil => intro y hy; cases y with
    | nil => rfl
    | cons _ _ => cases hy
   | cons c x ih =>
    intro y hy
    cases y with
    | nil => cases hy
    | cons d y =>
     simp only [eqL] at hy
     split at hy
     ·rename_i hc; rw [eqAV_spec n c d hc, ih y hy]
     ·cases hy
  have hn : ∀ {x y : Nat}, Nat.beq x y = true → x = y := fun h => Nat.eq_of_beq_eq_true h
  unfold eqAV at h
  split at h
  ·simp only [beq_iff_eq] at h; rw [h]
  ·simp only [Bool.and_eq_true, eqI_spec, beq_iff_eq] at h; rw [kindEq_spec h.1, h.2]
  ·simp only [Bool.and_eq_true] at h; rw [hn h.1, hn h.2]
  ·rfl
  ·simp only [Bool.and_eq_true] at h; rw [hn h.1.1, hn h.1.2, hn h.2]
  ·rfl
  ·simp only [Bool.and_eq_true, beq_iff_eq] at h
   obtain ⟨⟨⟨⟨⟨h1, h2⟩, h3⟩, h4⟩, h5⟩, h6⟩ := h
   rw [hn h1, hn h2, hn h3, hn h4, hn h5, h6]
  ·rfl
  ·rfl
  ·rw [hn h]
  ·rfl
  ·simp only [Bool.and_eq_true] at h; rw [hn h.1.1, hl _ _ h.1.2, hl _ _ h.2]
  ·simp only [Bool.and_eq_true] at h; rw [hn h.1.1, hl _ _ h.1.2, hl _ _ h.2]
  ·rfl
  ·simp only [Bool.and_eq_true] at h; rw [hn h.1, eqAV_spec n _ _ h.2]
  ·rw [hl _ _ h]
  ·rw [hl _ _ h]
  ·cases h
theorem testBit_lor (a b j : Nat) : (Nat.lor a b).testBit j = (a.testBit j || b.testBit j) := Nat.testBit_or a b j
theorem testBit_pow (i j : Nat) : (2 ^ i).testBit j = decide (i = j) := Nat.testBit_two_pow
theorem land_sub {a b : Nat} (h : Nat.beq (Nat.land a b) a = true) (j : Nat) (hj : a.testBit j = true) : b.testBit j = true := by
 have e : a &&& b = a := Nat.eq_of_beq_eq_true h
 rw [← e, Nat.testBit_and] at hj
 simp only [Bool.and_eq_true] at hj
 exact hj.2
theorem bitsOf_spec : ∀ {l : List Nat} {t : Nat}, t ∈ l → (bitsOf l).testBit t = true
 | [], _, h => by cases h
 | a :: l, t, h => by
  simp only [bitsOf, testBit_lor, testBit_pow, Bool.or_eq_true, decide_eq_true_eq]
  rcases List.mem_cons.1 h with rfl | h
  ·exact .inl rfl
  ·exact .inr (bitsOf_spec h)
theorem maskOf_spec {acc : List Nat} : ∀ {l : List Edge} {j : Nat}, (maskOf acc l).testBit j = true ↔ ∃ e ∈ l, Region.binds .any e = true ∧ (j = e.on ∨ (acc.getD e.on 0).testBit j = true)
 | [], j => by simp [maskOf]
 | e :: l, j => by
  simp only [maskOf]
  split
  ·rename_i hb
   simp only [testBit_lor, testBit_pow, Bool.or_eq_true, decide_eq_true_eq, maskOf_spec, List.mem_cons, exists_eq_or_imp, hb, true_and]
   constructor
   ·rintro ((h | h) | h)
    ·exact .inl (.inl h.symm)
    ·exact .inl (.inr h)
    ·exact .inr h
   ·rintro ((h | h) | h)
    ·exact .inl (.inl h.symm)
    ·exact .inl (.inr h)
    ·exact .inr h
  ·rename_i hb
   simp only [maskOf_spec, List.mem_cons, exists_eq_or_imp, hb, Bool.false_eq_true, false_and, false_or]
theorem filterB_mem {α : Type} {f : α → Bool} : ∀ {l : List α} {x : α}, x ∈ filterB f l ↔ x ∈ l ∧ f x = true
 | [], x => by simp [filterB]
 | a :: l, x => by
  simp only [filterB]
  split
  ·rename_i h
   simp only [List.mem_cons, filterB_mem]
   constructor
   ·rintro (rfl | h')
    ·exact ⟨.inl rfl, h⟩
    ·exact ⟨.inr h'.1, h'.2⟩
   ·rintro ⟨rfl | h1, h2⟩
    ·exact .inl rfl
    ·exact .inr ⟨h1, h2⟩
  ·rename_i h
   simp only [List.mem_cons, filterB_mem]
   constructor
   ·rintro ⟨h1, h2⟩; exact ⟨.inr h1, h2⟩
   ·rintro ⟨rfl | h1, h2⟩
    ·rw [h] at h2; cases h2
    ·exact ⟨h1, h2⟩
theorem allB_mem {α : Type} {f : α → Bool} : ∀ {l : List α}, allB f l = true → ∀ x ∈ l, f x = true
 | [], _, x, hx => by cases hx
 | a :: l, h, x, hx => by
  simp only [allB] at h
  split at h
  ·rename_i ha
   rcases List.mem_cons.1 hx with rfl | hx
   ·exact ha
   ·exact allB_mem h x hx
  ·cases h
structure LOk (P : Program) (ops : Array Oper) (L : List DOp) : Prop where
 op : ∀ x ∈ L, ops[x.i]? = some x.o ∧ x.i < ops.size
 all : ∀ i, i < ops.size → ∃ x ∈ L, x.i = i
 inj : ∀ x ∈ L, ∀ y ∈ L, x.i = y.i → x = y
 cl : ∀ x ∈ L, x.c = cls P x.o.op
 lm : ∀ x ∈ L, ∀ t ∈ looks ops x.o, x.lm.testBit t = true
 msk : ∀ x ∈ L, ∀ j, x.m.testBit j = true → ∃ e ∈ x.o.after.toList, Region.binds .any e = true ∧ (j = e.on ∨ ∃ y ∈ L, y.i = e.on ∧ y.m.testBit j = true)
 edge : ∀ x ∈ L, ∀ e ∈ x.o.after.toList, Region.binds .any e = true → x.m.testBit e.on = true
theorem dops_get (P : Program) (ops : Array Oper) : ∀ (l : List Oper) (acc : List Nat) (i : Nat) (j : Nat), (dops P ops l acc i).length = l.length ∧ ∀ x, (dops P ops l acc i)[j]? = some x →
  x.i = i + j ∧ l[j]? = some x.o ∧ x.c = cls P x.o.op ∧ x.lm = bitsOf (looks ops x.o) ∧ x.m = maskOf (acc ++ ((dops P ops l acc i).take j).map (·.m)) x.o.after.toList
 | [], acc, i, j => ⟨rfl, fun x h => by simp [dops] at h⟩
 | o :: l, acc, i, 0 => ⟨by simp [dops, (dops_get P ops l _ (i + 1) 0).1], fun x h => by
   simp only [dops, List.getElem?_cons_zero, Option.some.injEq] at h
   subst h
   exact ⟨rfl, rfl, rfl, rfl, by simp⟩⟩
 | o :: l, acc, i, j + 1 => ⟨by simp [dops, (dops_get P ops l _ (i + 1) 0).1], fun x h => by
   simp only [dops, List.getElem?_cons_succ] at h
   obtain ⟨h1, h2, h3, h4, h5⟩ := (dops_get P ops l _ (i + 1) j).2 x h
   refine ⟨by omega, by simpa using h2, h3, h4, ?_⟩
   rw [h5]
   simp [dops]⟩
theorem dops_ok (P : Program) (ops : Array Oper) : LOk P ops (dops P ops ops.toList [] 0) := by
 have hg := dops_get P ops ops.toList [] 0
 have hlen : (dops P ops ops.toList [] 0).length = ops.size := by rw [(hg 0).1]; simp
 have hm : ∀ x ∈ dops P ops ops.toList [] 0, ∃ j, (dops P ops ops.toList [] 0)[j]? = some x ∧ x.i = j := fun x hx => by
  obtain ⟨j, hj⟩ := List.mem_iff_getElem?.1 hx
  exact ⟨j, hj, by have := ((hg j).2 x hj).1; omega⟩
 refine ⟨fun x hx => ?_, fun i hi => ?_, fun x hx y hy e => ?_, fun x hx => ?_, fun x hx t ht => ?_, fun x hx j hj => ?_, fun x hx e he hb => ?_⟩
 ·obtain ⟨j, hj, e⟩ := hm x hx
  obtain ⟨_, h2, _⟩ := (hg j).2 x hj
  rw [e]
  have : j < ops.size := by
   have := (List.getElem?_eq_some_iff.1 hj).1
   omega
  exact ⟨by simpa using h2, this⟩
 ·exact ⟨(dops P ops ops.toList [] 0)[i]'(by omega), List.getElem_mem _, by
   have := ((hg i).2 _ (List.getElem?_eq_getElem (by omega))).1
   omega⟩
 ·obtain ⟨j, hj, e1⟩ := hm x hx
  obtain ⟨j', hj', e2⟩ := hm y hy
  have : j = j' := by omega
  subst this
  rw [hj] at hj'
  cases hj'
  rfl
 ·obtain ⟨j, hj, e1⟩ := hm x hx
  exact ((hg j).2 x hj).2.2.1
 ·obtain ⟨j, hj, e1⟩ := hm x hx
  rw [((hg j).2 x hj).2.2.2.1]
  exact bitsOf_spec ht
 ·obtain ⟨i, hi, e1⟩ := hm x hx
  rw [((hg i).2 x hi).2.2.2.2] at hj
  obtain ⟨e, he, hb, h⟩ := maskOf_spec.1 hj
  refine ⟨e, he, hb, h.imp id fun h => ?_⟩
  rw [List.nil_append, List.getD_eq_getElem?_getD, List.getElem?_map] at h
  cases hq : ((dops P ops ops.toList [] 0).take i)[e.on]? with
  | none => rw [hq] at h; simp at h
  | some y =>
   rw [hq] at h
   have hy := List.mem_iff_getElem?.2 ⟨e.on, hq⟩
   rw [List.getElem?_take] at hq
   split at hq
   ·exact ⟨y, List.mem_iff_getElem?.2 ⟨_, hq⟩, by have := ((hg e.on).2 y hq).1; omega, h⟩
   ·cases hq
 ·obtain ⟨i, hi, e1⟩ := hm x hx
  rw [((hg i).2 x hi).2.2.2.2]
  exact maskOf_spec.2 ⟨e, he, hb, .inl rfl⟩
theorem dstsOk_spec : ∀ {l : List DOp} {seen : Nat}, dstsOk l seen = true → (∀ x ∈ l, ∀ d, x.o.dst = some d → seen.testBit d = false) ∧ ∀ x ∈ l, ∀ y ∈ l, ∀ d, x.o.dst = some d → y.o.dst = some d → x = y
 | [], _, _ => ⟨fun x hx => (by cases hx), fun x hx => by cases hx⟩
 | a :: l, seen, h => by
  simp only [dstsOk] at h
  split at h
  ·rename_i ha
   obtain ⟨h1, h2⟩ := dstsOk_spec h
   refine ⟨fun x hx d hd => ?_, fun x hx y hy d hd hd' => ?_⟩
   ·rcases List.mem_cons.1 hx with rfl | hx
    ·rw [ha] at hd; cases hd
    ·exact h1 x hx d hd
   ·rcases List.mem_cons.1 hx with rfl | hx
    ·rw [ha] at hd; cases hd
    ·rcases List.mem_cons.1 hy with rfl | hy
     ·rw [ha] at hd'; cases hd'
     ·exact h2 x hx y hy d hd hd'
  ·rename_i d0 ha
   split at h
   ·cases h
   ·rename_i hs
    obtain ⟨h1, h2⟩ := dstsOk_spec h
    have h3 : ∀ x ∈ l, x.o.dst ≠ some d0 := fun x hx e => by
     have := h1 x hx d0 e
     rw [testBit_lor, testBit_pow] at this
     simp at this
    refine ⟨fun x hx d hd => ?_, fun x hx y hy d hd hd' => ?_⟩
    ·rcases List.mem_cons.1 hx with rfl | hx
     ·rw [ha] at hd; cases hd; simpa using hs
     ·have := h1 x hx d hd
      rw [testBit_lor] at this
      simp only [Bool.or_eq_false_iff] at this
      exact this.2
    ·rcases List.mem_cons.1 hx with ex | kx <;> rcases List.mem_cons.1 hy with ey | ky
     ·rw [ex, ey]
     ·subst ex; rw [ha] at hd; cases hd; exact absurd hd' (h3 y ky)
     ·subst ey; rw [ha] at hd'; cases hd'; exact absurd hd (h3 x kx)
     ·exact h2 x kx y ky d hd hd'
theorem isCh_iff {x : DOp} : isCh x = true ↔ x.c = .ch := by
 unfold isCh
 constructor
 ·intro h; split at h
  ·assumption
  ·cases h
 ·intro h; rw [h]
theorem isQuiet_iff {x : DOp} : isQuiet x = true ↔ x.c = .quiet := by
 unfold isQuiet
 constructor
 ·intro h; split at h
  ·assumption
  ·cases h
 ·intro h; rw [h]
theorem topo_cons {x : DOp} {l : List DOp} {seen chs s : Nat} (h : topo (x :: l) seen chs = some s) : (∀ j, x.m.testBit j = true → seen.testBit j = true) ∧ seen.testBit x.i = false ∧
  ((x.c = .quiet ∧ topo l (Nat.lor (2 ^ x.i) seen) chs = some s) ∨
   ((x.c = .rd ∨ x.c = .al) ∧ (∀ j, chs.testBit j = true → x.m.testBit j = true) ∧ topo l (Nat.lor (2 ^ x.i) seen) chs = some s) ∨
   (x.c = .ch ∧ (∀ j, chs.testBit j = true → x.m.testBit j = true) ∧ topo l (Nat.lor (2 ^ x.i) seen) (Nat.lor (2 ^ x.i) chs) = some s)) := by
 simp only [topo] at h
 split at h
 ·cases h
 ·rename_i h1
  split at h
  ·cases h
  ·rename_i h2
   refine ⟨fun j hj => land_sub h1 j hj, by simpa using h2, ?_⟩
   split at h
   ·rename_i h3
    exact .inl ⟨isQuiet_iff.1 h3, h⟩
   ·rename_i h3
    split at h
    ·cases h
    ·rename_i h4
     split at h
     ·rename_i h5
      exact .inr (.inr ⟨isCh_iff.1 h5, fun j hj => land_sub h4 j hj, h⟩)
     ·rename_i h5
      refine .inr (.inl ⟨?_, fun j hj => land_sub h4 j hj, h⟩)
      cases hc : x.c with
      | quiet => rw [isQuiet_iff.2 hc] at h3; cases h3
      | rd => exact .inl rfl
      | al => exact .inr rfl
      | ch => rw [isCh_iff.2 hc] at h5; cases h5
theorem topo_seen : ∀ {l : List DOp} {seen chs s : Nat}, topo l seen chs = some s → ∀ j, s.testBit j = true ↔ (seen.testBit j = true ∨ ∃ x ∈ l, x.i = j)
 | [], seen, chs, s, h, j => by simp only [topo, Option.some.injEq] at h; subst h; simp
 | x :: l, seen, chs, s, h, j => by
  obtain ⟨_, _, h3⟩ := topo_cons h
  have key : ∀ chs', topo l (Nat.lor (2 ^ x.i) seen) chs' = some s → (s.testBit j = true ↔ (seen.testBit j = true ∨ ∃ y ∈ x :: l, y.i = j)) := fun chs' h' => by
   rw [topo_seen h' j, testBit_lor, testBit_pow]
   simp only [Bool.or_eq_true, decide_eq_true_eq, List.mem_cons, exists_eq_or_imp]
   constructor
   ·rintro ((h | h) | h)
    ·exact .inr (.inl h)
    ·exact .inl h
    ·exact .inr (.inr h)
   ·rintro (h | h | h)
    ·exact .inl (.inr h)
    ·exact .inl (.inl h)
    ·exact .inr h
  rcases h3 with ⟨_, h3⟩ | ⟨_, _, h3⟩ | ⟨_, _, h3⟩ <;> exact key _ h3
theorem topo_new : ∀ {l : List DOp} {seen chs s : Nat}, topo l seen chs = some s → ∀ x ∈ l, seen.testBit x.i = false
 | [], _, _, _, _, x, hx => by cases hx
 | y :: l, seen, chs, s, h, x, hx => by
  obtain ⟨_, h2, h3⟩ := topo_cons h
  rcases List.mem_cons.1 hx with rfl | hx
  ·exact h2
  ·have key : ∀ chs', topo l (Nat.lor (2 ^ y.i) seen) chs' = some s → seen.testBit x.i = false := fun chs' h' => by
    have := topo_new h' x hx
    rw [testBit_lor] at this
    simp only [Bool.or_eq_false_iff] at this
    exact this.2
   rcases h3 with ⟨_, h3⟩ | ⟨_, _, h3⟩ | ⟨_, _, h3⟩ <;> exact key _ h3
theorem topo_chs : ∀ {l : List DOp} {seen chs s : Nat}, topo l seen chs = some s → ∀ x ∈ l, x.c ≠ .quiet → ∀ j, chs.testBit j = true → x.m.testBit j = true
 | [], _, _, _, _, _, hx => by cases hx
 | y :: l, seen, chs, s, h, x, hx => by
  intro hq j hj
  obtain ⟨_, h2, h3⟩ := topo_cons h
  rcases List.mem_cons.1 hx with rfl | hx
  ·rcases h3 with ⟨e, h3⟩ | ⟨e, h4, h3⟩ | ⟨e, h4, h3⟩
   ·exact absurd e hq
   ·exact h4 j hj
   ·exact h4 j hj
  ·rcases h3 with ⟨e, h3⟩ | ⟨e, h4, h3⟩ | ⟨e, h4, h3⟩
   ·exact topo_chs h3 x hx hq j hj
   ·exact topo_chs h3 x hx hq j hj
   ·exact topo_chs h3 x hx hq j (by rw [testBit_lor, hj]; simp)
theorem phase_sub {L chain : List DOp} {p : Nat} : ∀ x ∈ phase L chain p, x ∈ L := fun _ hx => (filterB_mem.1 hx).1
theorem ordFrom_sub {L chain : List DOp} : ∀ {l : List DOp} {p : Nat}, (∀ x ∈ l, x ∈ L) → ∀ x ∈ ordFrom L chain l p, x ∈ L
 | [], _, _, _, hx => by cases hx
 | c :: l, p, h, x, hx => by
  simp only [ordFrom, List.mem_cons, List.mem_append] at hx
  rcases hx with rfl | hx | hx
  ·exact h _ (by simp)
  ·exact phase_sub x hx
  ·exact ordFrom_sub (fun y hy => h y (by simp [hy])) x hx
theorem ordOf_sub {L : List DOp} : ∀ x ∈ ordOf L (filterB isCh L), x ∈ L := fun x hx => by
 simp only [ordOf, List.mem_append] at hx
 rcases hx with hx | hx
 ·exact phase_sub x hx
 ·exact ordFrom_sub (fun y hy => (filterB_mem.1 hy).1) x hx
end Go.Sv
namespace Go.Sv
open Go.RowKit (Below)
def ObFree (ob : AObj) : Prop := ∀ B C w o, (∀ v, C.f o v = none) → ObjR B C w o ob
def MkOk (P : Program) (C : CM) (w : World) (nx : Sem Next) (v : AV) (ob : AObj) : Prop :=
 ∃ blk n sz x, nx.run P w = .ok (.value x) (w.alloc blk) ∧ ∀ (C1 : CM) (id : Nat), C.keep C1 → C1 id 0 = some ⟨w.heap.size, 0, n, sz⟩ →
  VR C1 (reId id v) x ∧ ∀ B, B ≤ w.heap.size → ObjR B C1 (w.alloc blk) id ob
def MkR (P : Program) (E : Tr AV) (H : Heap) (nx : (Operand → Value) → Sem Next) : OR → Prop
 | .no => True
 | .val v H1 => ∃ ob, True ∧ H1 = H.push ob ∧ idOf v = some H.next ∧ ObFree ob ∧ ∀ C w ρ, OpdOk C E ρ → MkOk P C w (nx ρ) v ob
 | .call _ _ => False
def Mk (P : Program) (F : OpF) (nx : (Operand → Value) → Sem Next) : Prop := ∀ E H, MkR P E H nx (F.run E H)
theorem Mk.congr {P : Program} {F : OpF} {nx nx' : (Operand → Value) → Sem Next} (h : ∀ ρ, nx ρ = nx' ρ) (s : Mk P F nx) : Mk P F nx' := by
 rw [show nx' = nx from funext fun ρ => (h ρ).symm]; exact s
theorem stuck_mk (P : Program) (nx : (Operand → Value) → Sem Next) : Mk P stuckF nx := fun _ _ => trivial
theorem newObj_some {H H' : Heap} {l : List AV} {o : Nat} (h : newObj H l = some (o, H')) : True ∧ True ∧ o = H.next ∧ H' = H.push (.cells (ofListFrom l 0 .e) l.length 0 false) := by
 unfold newObj at h
 cases h
 exact ⟨trivial, trivial, rfl, rfl⟩
theorem row_free {l : List AV} (_ : True) : ObFree (.cells (ofListFrom l 0 .e) l.length 0 false) := fun B C w o hn => fun L hL => by rw [hn] at hL; cases hL
theorem row_mk {P : Program} {C : CM} {w : World} {l : List AV} {cs : Array Value} {t : TypeId} (_hl : True) (hv : VRs C l cs.toList) (h1 : ∀ a ∈ l, a.one = true) {nx : Sem Next} {v : AV} {x : Value}
  (hnx : nx.run P w = .ok (.value x) (w.alloc (.cells cs t))) (hx : ∀ (C1 : CM) (id : Nat), C1 id 0 = some ⟨w.heap.size, 0, l.length, cs.size⟩ → VR C1 (reId id v) x) :
  MkOk P C w nx v (.cells (ofListFrom l 0 .e) l.length 0 false) := by
 have hlen : l.length = cs.toList.length := hv.length
 have hlen' : l.length = cs.size := by simpa using hlen
 refine ⟨_, l.length, cs.size, x, hnx, fun C1 id hk hL => ⟨hx C1 id hL, fun B hB => fun L hL' => ?_⟩⟩
 rw [hL] at hL'
 cases hL'
 refine ⟨rfl, fun _ => hB, by dsimp; omega, cs, t, 0, 0, heap_alloc_new _ _, Nat.le_refl _, fun i _ _ => by omega, ?_⟩
 intro k hk'
 rw [get_ofList l 0 .e k, if_pos (by omega)]
 obtain ⟨a, v, q1, q2, q3⟩ := hv.get' (i := k) hk'
 refine ⟨a, by simpa using q1, h1 a (List.mem_of_getElem? q1), v, ?_, q3.mono' hk⟩
 simpa using q2
theorem newVar_mk {P : Program} {H : Heap} {l : List AV} {E : Tr AV} {nx : (Operand → Value) → Sem Next} {t : TypeId}
  (hnx : ∀ C w ρ, OpdOk C E ρ → ∃ cs : Array Value, VRs C l cs.toList ∧ (∀ a ∈ l, a.one = true) ∧ (nx ρ).run P w = .ok (.value (.pointer (some ⟨w.heap.size, 0, none⟩))) (w.alloc (.cells cs t))) :
  MkR P E H nx (newVarA H l) := by
 unfold newVarA
 split
 ·rename_i o H' hn
  obtain ⟨q1, q2, rfl, rfl⟩ := newObj_some hn
  refine ⟨_, q1, rfl, rfl, row_free q2, fun C w ρ hρ => ?_⟩
  obtain ⟨cs, k1, k2, k3⟩ := hnx C w ρ hρ
  refine row_mk q2 k1 k2 k3 (fun C1 id hL => ?_)
  simpa [reId] using VR.ptr (i := 0) hL
 ·exact trivial
theorem alloc_mk (P : Program) (t : TypeId) : Mk P (compOp P (.alloc t)) (fun _ => do pure (.value (← Instr.alloc t true (.tuple #[])))) := by
 intro E H
 show MkR P E H _ (OpF.run (match zeroT P t with
  | some l => ⟨fun _ H => newVarA H l⟩
  | none => stuckF) E H)
 cases hz : zeroT P t with
 | none => exact trivial
 | some l =>
  refine newVar_mk (t := t) (fun C w ρ hρ => ?_)
  obtain ⟨v, i, h1, h2, h3, h4⟩ := run_zeroT (w := w) hz
  obtain ⟨k1, k2⟩ := absL_spec (C := C) h2
  exact ⟨v.cells, k1, k2, by simp [Instr.alloc, h1, newVar, newRow]⟩
theorem unary1_mk {P : Program} {x : Operand} {f : Heap → AV → OR} {nx : (Operand → Value) → Sem Next} (h : ∀ E H a, (opd x).run E = some a → MkR P E H nx (f H a)) : Mk P (unary1 x f) nx := by
 intro E H
 show MkR P E H nx (Option.rec OR.no (fun a => f H a) ((opd x).run E))
 cases hx : (opd x).run E with
 | none => exact trivial
 | some a => exact h _ _ _ hx
theorem binary2_mk {P : Program} {x y : Operand} {f : Heap → AV → AV → OR} {nx : (Operand → Value) → Sem Next} (h : ∀ E H a b, (opd x).run E = some a → (opd y).run E = some b → MkR P E H nx (f H a b)) : Mk P (binary2 x y f) nx := by
 intro E H
 show MkR P E H nx (Option.rec OR.no (fun a => Option.rec OR.no (fun b => f H a b) ((opd y).run E)) ((opd x).run E))
 cases hx : (opd x).run E with
 | none => exact trivial
 | some a =>
  cases hy : (opd y).run E with
  | none => exact trivial
  | some b => exact h _ _ _ _ hx hy
theorem box_mk (P : Program) (t : TypeId) (x : Operand) : Mk P (compOp P (.box t x)) (fun ρ => do pure (.value (← Instr.box t (ρ x)))) := by
 refine unary1_mk fun E H a ha => ?_
 cases hc : a.cells with
 | none => exact trivial
 | some l =>
  refine newVar_mk (t := t) (fun C w ρ hρ => ?_)
  obtain ⟨k1, k2⟩ := (hρ _ _ ha).cells hc
  exact ⟨_, k1, k2, by simp [Instr.box, newVar, newRow]⟩
theorem newSl_mk {P : Program} {C : CM} {w : World} (t : TypeId) {l : List AV} {o len esz : Nat} {cs : Array Value} (_hl : True) (hv : VRs C l cs.toList) (h1 : ∀ a ∈ l, a.one = true) {cap : Nat} (hc : cap * esz = l.length) (hle : len ≤ cap)
  {nx : Sem Next} (hnx : nx.run P w = .ok (.value (.slice (some ⟨w.heap.size, 0, none⟩) len cap)) (w.alloc (.cells cs t))) : MkOk P C w nx (.sl o 0 0 len esz (some cap)) (.cells (ofListFrom l 0 .e) l.length 0 false) := by
 have hlen : l.length = cs.toList.length := hv.length
 have hlen' : l.length = cs.size := by simpa using hlen
 have hmul : len * esz ≤ cap * esz := Nat.mul_le_mul_right _ hle
 refine row_mk _hl hv h1 hnx (fun C1 id hL => ?_)
 have := VR.sl (i := 0) (len := len) (esz := esz) (room := some cap) (cap := cap) hL (by dsimp; omega) (by dsimp; omega) hle (fun r hr => by cases hr; exact ⟨rfl, by dsimp; omega⟩) (fun h => by cases h)
 simpa [reId] using this
theorem buildSlice_mk (P : Program) (t : TypeId) (len : Nat) (parts : Array (Nat × Operand)) :
  Mk P (buildSliceF P t len parts) (fun ρ => do pure (.value (← Instr.buildSlice t len (parts.map fun (i, x) => (i, ρ x))))) := by
 unfold buildSliceF
 split
 ·rename_i elem hu
  split
  ·exact stuck_mk P _
  ·rename_i size hs
   split
   ·exact stuck_mk P _
   ·rename_i z hz
    split
    ·rename_i hcond
     obtain ⟨hsz, hpos⟩ := hcond
     split
     ·exact stuck_mk P _
     ·rename_i ps hps
      intro E H
      dsimp only
      split
      ·rename_i l hl
       split
       ·rename_i o H' hn
        obtain ⟨n1, n2, rfl, rfl⟩ := newObj_some hn
        refine ⟨_, n1, rfl, rfl, row_free n2, fun C w ρ hρ => ?_⟩
        obtain ⟨v, i, h1, h2, h3, h4⟩ := run_zeroT (w := w) hz
        obtain ⟨k1, k2⟩ := absL_spec (C := C) h2
        have hzs : v.cells.size = size := by
         have e1 := k1.length
         unfold sizeT at hs; rw [h3] at hs; simp at hs e1; omega
        have hzl : z.length = size := by have e1 := k1.length; simp at e1; omega
        have hrel : VRs C (repeatL z len) ((Array.range (len * size)).map fun i => v.cells[i % v.cells.size]!).toList := by
         rw [← hzs, zeros_eq]; exact repeatL_rel k1 len
        obtain ⟨vs, q1, q2, q3⟩ := partsAt_spec hps hρ hl hrel (repeatL_one k2 len)
        have hll : l.length = len * size := by
         have e1 := q2.length
         have e3 := fill_size q1
         simp at e3 e1; omega
        refine newSl_mk elem n2 q2 q3 hll.symm (Nat.le_refl _) ?_
        have hf : Instr.fill (fun i => some (i * size, size)) ((Array.range (len * size)).map fun i => v.cells[i % v.cells.size]!) (parts.map fun (i, x) => (i, ρ x)).toList = some vs := by
         rw [Array.toList_map]; exact q1
        have hbig : ¬ (len * size > 2 ^ 24) := by omega
        simp only [Instr.buildSlice, Sem.run_bind, run_und hu, run_size hs, Result.andThen_ok, Sem.run_ite, if_neg hbig]
        by_cases h0 : len * size = 0
        ·rw [if_pos h0]
         have hf0 : Instr.fill (fun i => some (i * size, size)) ((Array.range (len * size)).map fun i => (#[] : Array Value)[i % (#[] : Array Value).size]!) (parts.map fun (i, x) => (i, ρ x)).toList = some vs := by
          rw [← hf, h0, range0, range0]
         simp only [Sem.run_pure, Result.andThen_ok, hf0, newRow, Sem.run_bind, run_newObj]
         rfl
        ·rw [if_neg h0]
         simp only [Sem.run_bind, h1, Sem.run_pure, Result.andThen_ok, hf, newRow, run_newObj]
         rfl
       ·exact trivial
      ·exact trivial
    ·exact stuck_mk P _
 ·exact stuck_mk P _
theorem mkSlice_mk (P : Program) (t : TypeId) (l c : Operand) : Mk P (mkSliceF P t l c) (fun ρ => do pure (.value (← Instr.makeSlice t (ρ l) (ρ c)))) := by
 unfold mkSliceF
 split
 ·rename_i elem hu
  split
  ·exact stuck_mk P _
  ·rename_i i hi
   split
   ·exact stuck_mk P _
   ·rename_i z hz
    split
    ·rename_i hcond
     obtain ⟨hpos, hby⟩ := hcond
     refine binary2_mk fun E H a b ha0 hb0 => ?_
     split
     ·rename_i x y
      split
      ·rename_i hxy
       split
       ·rename_i hy
        split
        ·rename_i o H' hn
         obtain ⟨n1, n2, rfl, rfl⟩ := newObj_some hn
         refine ⟨_, n1, rfl, rfl, row_free n2, fun C w ρ hρ => ?_⟩
         have ha := hρ _ _ ha0
         have hb := hρ _ _ hb0
         have hxy' : x ≤ y := Nat.le_of_ble_eq_true hxy
         have hy' : y ≤ 1048576 := Nat.le_of_ble_eq_true hy
         obtain ⟨v, j, h1, h2, h3, h4⟩ := run_zeroT (w := w) hz
         obtain ⟨k1, k2⟩ := absL_spec (C := C) h2
         rw [hi] at h3; cases h3
         have hzs : v.cells.size = i.size := by have e1 := k1.length; simp at e1; omega
         generalize hpl : ρ l = pl at ha
         generalize hpc : ρ c = pc at hb
         cases ha; cases hb
         refine newSl_mk elem n2 (cs := (Array.range (y * i.size)).map fun k => v.cells[k % v.cells.size]!) (by rw [← hzs, zeros_eq]; exact repeatL_rel k1 y) (repeatL_one k2 y) (by rw [repeatL_length, h4]) hxy' ?_
         have e1 : IntKind.i64.wrap (Int.ofNat x) = Int.ofNat x := by simp only [IntKind.wrap, IntKind.bits, IntKind.signed]; simp; omega
         have e2 : IntKind.i64.wrap (Int.ofNat y) = Int.ofNat y := by simp only [IntKind.wrap, IntKind.bits, IntKind.signed]; simp; omega
         have e3 : i.bytes * y ≤ 65536 * 1048576 := Nat.mul_le_mul hby hy'
         have e4 : ¬ ((decide (Int.ofNat y < 0) || decide ((i.bytes : Int) * Int.ofNat y > 2 ^ 48) || decide (Int.ofNat x < 0) || decide (Int.ofNat x > Int.ofNat y)) = true) := by
          have e5 : ((i.bytes : Int) * Int.ofNat y) = ((i.bytes * y : Nat) : Int) := by simp
          rw [e5]
          simp only [Bool.or_eq_true, decide_eq_true_eq, not_or]
          refine ⟨⟨⟨by simp, by simp; omega⟩, by simp⟩, by simp; omega⟩
         simp only [Instr.makeSlice, hpl, hpc, Sem.run_bind, run_und hu, run_info hi, asInt, asIntOf, Sem.run_pure, Result.andThen_ok, e1, e2, Sem.run_ite, if_neg e4, run_askRoom, run_size (show sizeT P elem = some i.size from by simp [sizeT, hi])]
         have e6 : (Int.ofNat y).toNat = y := rfl
         have e7 : (Int.ofNat x).toNat = x := rfl
         rw [e6, e7]
         by_cases h0 : y * i.size = 0
         ·rw [if_pos h0]
          simp only [Sem.run_pure, Result.andThen_ok, newRow, Sem.run_bind, run_newObj]
          have : ((Array.range (y * i.size)).map fun k => (#[] : Array Value)[k % (#[] : Array Value).size]!) = ((Array.range (y * i.size)).map fun k => v.cells[k % v.cells.size]!) := by rw [h0, range0, range0]
          rw [this]; rfl
         ·rw [if_neg h0]
          simp only [Sem.run_bind, h1, Sem.run_pure, Result.andThen_ok, newRow, run_newObj]
          rfl
        ·exact trivial
       ·exact trivial
      ·exact trivial
     ·exact trivial
    ·exact stuck_mk P _
 ·exact stuck_mk P _
theorem pushMap_mk {P : Program} {H : Heap} {E : Tr AV} {nx : (Operand → Value) → Sem Next}
  (hnx : ∀ (C : CM) w ρ, OpdOk C E ρ → (nx ρ).run P w = .ok (.value (.map (some w.heap.size))) (w.alloc (.map #[] 0))) : MkR P E H nx (pushMap H) := by
 unfold pushMap
 refine ⟨_, trivial, rfl, rfl, fun B C w o hn L hL => (by rw [hn] at hL; cases hL), fun C w ρ hρ => ?_⟩
 refine ⟨_, 0, 0, _, hnx C w ρ hρ, fun C1 id hk hL => ⟨.map hL, fun B hB L hL' => ?_⟩⟩
 rw [hL] at hL'
 cases hL'
 exact ⟨hB, #[], heap_alloc_new _ _, .nil⟩
theorem mkMap_mk (P : Program) (t : TypeId) (r : Option Operand) : Mk P (mkMapF P t r) (fun ρ => do pure (.value (← Instr.makeMap t (r.map ρ)))) := by
 unfold mkMapF
 split
 ·intro E H
  exact pushMap_mk (fun C w ρ hρ => by simp [Instr.makeMap])
 ·rename_i x
  split
  ·rename_i k e hu
   refine unary1_mk fun E H a ha => ?_
   split
   ·refine pushMap_mk (fun C w ρ hρ => ?_)
    have := hρ _ _ ha
    generalize hx : ρ x = px at this
    cases this
    simp [Instr.makeMap, run_und hu, hx, asInt, asIntOf]
   ·exact trivial
  ·exact stuck_mk P _
theorem cls_mk {P : Program} {o : Oper} (h : cls P o.op = .al) : Mk P (compOp P o.op) (fun ρ => execOp ρ o) := by
 generalize ho : o.op = op at h
 cases op with
 | alloc t => exact Mk.congr (fun ρ => by simp only [execOp, ho]) (alloc_mk P t)
 | box t x => exact Mk.congr (fun ρ => by simp [execOp, ho]) (box_mk P t x)
 | buildSlice t n ps => exact Mk.congr (fun ρ => by simp [execOp, ho]) (buildSlice_mk P t n ps)
 | makeMap t r => exact Mk.congr (fun ρ => by simp [execOp, ho]) (mkMap_mk P t r)
 | makeSlice t l c => exact Mk.congr (fun ρ => by simp [execOp, ho]) (mkSlice_mk P t l c)
 | slice t _ _ _ _ => simp only [cls] at h; split at h <;> cases h
 | convert s d x => simp only [cls] at h; split at h <;> first | (cases h; done) | (split at h <;> cases h)
 | call c =>
  simp only [cls, clsCall] at h
  split at h
  ·split at h
   ·split at h <;> cases h
   ·cases h
  all_goals cases h
 | _ => cases h
def CM.lift (C : CM) (n : Nat) : CM := ⟨C.f, n⟩
theorem CM.le_lift {C : CM} {n : Nat} (h : C.nx ≤ n) : C.le (C.lift n) := ⟨fun _ _ _ h => h, h, fun _ v L h => .inl ⟨v, L, h⟩⟩
inductive Ups : Heap → Heap → Prop where
 | refl (H : Heap) : Ups H H
 | push {H H' : Heap} {ob : AObj} (hl : True) (hf : ObFree ob) (h : Ups (H.push ob) H') : Ups H H'
theorem Ups.next {H H' : Heap} (h : Ups H H') : H.next ≤ H'.next := by
 induction h with
 | refl => exact Nat.le_refl _
 | push _ _ _ ih => exact Nat.le_trans (Nat.le_succ _) ih
theorem Rel.up {w0 : World} {C : CM} {H : Heap} {w : World} (h : Rel w0 C H w) (_ : True) {ob : AObj} (hf : ObFree ob) : Rel w0 (C.lift (H.next + 1)) (H.push ob) w := by
 have hle : C.le (C.lift (H.next + 1)) := CM.le_lift (by rw [h.nx]; exact Nat.le_succ _)
 refine ⟨rfl, h.low, fun o v L hL => ?_, h.lt, h.excl, ?_, ?_⟩
 ·show o < H.next + 1
  have := h.fresh o v L hL; omega
 ·intro o ob' ho hg
  by_cases e : o = H.next
  ·subst e; rw [Heap.get_push_same] at hg; cases hg; exact hf _ _ _ _ (fun v => h.next_none v)
  ·have ho' : o < H.next := by have : o < H.next + 1 := ho; omega
   rw [Heap.get_push_ne _ _ ho'] at hg
   exact (h.obj _ _ ho' hg).frame hle (fun v L hL => hL) (fun v L hL => rfl)
 ·intro o c len ver ro ho hg v L hL
  by_cases e : o = H.next
  ·subst e; have := h.fresh _ _ _ hL; omega
  ·have ho' : o < H.next := by have : o < H.next + 1 := ho; omega
   rw [Heap.get_push_ne _ _ ho'] at hg
   exact h.top _ _ _ _ _ ho' hg _ _ hL
theorem Rel.ups {w0 : World} {H H' : Heap} {w : World} (hu : Ups H H') : ∀ {C : CM}, Rel w0 C H w → Rel w0 (C.lift H'.next) H' w := by
 induction hu with
 | refl H => intro C h; rw [← h.nx]; exact h
 | push hl hf _ ih =>
  intro C h
  have h1 := h.up hl hf
  have h2 := ih h1
  exact h2
theorem eqCells_spec {c c' : Tr AV} {len : Nat} (h : eqCells c c' len = true) : ∀ j, j < len → getP (pathOf j) c = getP (pathOf j) c' := by
 unfold eqCells at h
 split at h
 ·rename_i l l' h1 h2
  obtain ⟨k1, k2⟩ := getCells_spec h1
  obtain ⟨k3, k4⟩ := getCells_spec h2
  have he : l = l' := by
   have : ∀ (x y : List AV), eqL (eqAV 30) x y = true → x = y := by
    intro x
    induction x with
    | nil => intro y hy; cases y with
     | nil => rfl
     | cons _ _ => cases hy
    | cons c x ih =>
     intro y hy
     cases y with
     | nil => cases hy
     | cons d y =>
      simp only [eqL] at hy
      split at hy
      ·rename_i hc; rw [eqAV_spec 30 c d hc, ih y hy]
      ·cases hy
   exact this _ _ h
  intro j hj
  have e1 := k2 j hj
  have e2 := k4 j hj
  rw [Nat.zero_add] at e1 e2
  rw [e1, e2, he]
 ·cases h
theorem ObjR.eqObj {B : Nat} {C : CM} {w : World} {o : Nat} {a b : AObj} (h : Sv.eqObj a b = true) (k : ObjR B C w o b) : ObjR B C w o a := by
 unfold Sv.eqObj at h
 split at h
 ·rename_i c len ver ro c' len' ver' ro'
  simp only [Bool.and_eq_true] at h
  obtain ⟨⟨⟨h1, h2⟩, h3⟩, h4⟩ := h
  obtain rfl := Nat.eq_of_beq_eq_true h1
  obtain rfl := Nat.eq_of_beq_eq_true h2
  obtain rfl : ro = ro' := by simpa using h3
  intro L hL
  obtain ⟨p1, p2, p3, vs, e, lo, hi, p4, p5, p6, p7⟩ := k L hL
  exact ⟨p1, p2, p3, vs, e, lo, hi, p4, p5, p6, fun i hi => by rw [eqCells_spec h4 i hi]; exact p7 i hi⟩
 ·obtain rfl := Nat.eq_of_beq_eq_true h
  exact k
 ·cases h
theorem sameB_spec {α : Type} {b : Bool} {x y : α} (hb : b = true → x = y) (h : sameB b x y = true) : x = y := by
 unfold sameB at h
 split at h
 ·exact hb rfl
 ·exact @of_decide_eq_true _ (Classical.propDecidable _) h
theorem sameB_or {α : Type} {b : Bool} {x y : α} (h : sameB b x y = true) : b = true ∨ x = y := by
 unfold sameB at h
 split at h
 ·exact .inl rfl
 ·exact .inr (@of_decide_eq_true _ (Classical.propDecidable _) h)
theorem ObjR.same {B : Nat} {C : CM} {w : World} {o : Nat} {a b : AObj} (h : sameB (Sv.eqObj a b) a b = true) (k : ObjR B C w o b) : ObjR B C w o a := by
 rcases sameB_or h with h | h
 ·exact k.eqObj h
 ·rw [h]; exact k
theorem Rel.bind {w0 : World} {C : CM} {H : Heap} {w : World} (h : Rel w0 C H w) {id n sz : Nat} (hid : id < H.next) (hn : ∀ v, C id v = none) {ob : AObj} (hg : H.get id = some ob) (blk : Obj)
  (hob : ObjR w0.heap.size (C.ext id 0 ⟨w.heap.size, 0, n, sz⟩) (w.alloc blk) id ob) : Rel w0 (C.ext id 0 ⟨w.heap.size, 0, n, sz⟩) H (w.alloc blk) ∧ C.keep (C.ext id 0 ⟨w.heap.size, 0, n, sz⟩) := by
 have hk : C.keep (C.ext id 0 ⟨w.heap.size, 0, n, sz⟩) := fun o' v' L' h' => by
  by_cases e : o' = id ∧ v' = 0
  ·obtain ⟨rfl, rfl⟩ := e; rw [hn] at h'; cases h'
  ·rw [CM.ext_ne C _ e]; exact h'
 refine ⟨⟨by show max C.nx (id + 1) = H.next; rw [h.nx]; omega, h.low.alloc h.low.size blk, ?_, ?_, ?_, ?_, ?_⟩, hk⟩
 ·intro o v L hL
  by_cases e : o = id ∧ v = 0
  ·omega
  ·rw [CM.ext_ne _ _ e] at hL; exact h.fresh _ _ _ hL
 ·intro o v L hL
  rw [World.size_alloc]
  by_cases e : o = id ∧ v = 0
  ·obtain ⟨rfl, rfl⟩ := e; rw [CM.ext_same] at hL; cases hL; exact Nat.lt_succ_self _
  ·rw [CM.ext_ne _ _ e] at hL; have := h.lt _ _ _ hL; omega
 ·intro o v L o' v' L' hL hL' hb hB
  by_cases e : o = id ∧ v = 0 <;> by_cases e' : o' = id ∧ v' = 0
  ·omega
  ·obtain ⟨rfl, rfl⟩ := e
   rw [CM.ext_same] at hL; cases hL
   rw [CM.ext_ne _ _ e'] at hL'; have := h.lt _ _ _ hL'; dsimp at hb; omega
  ·obtain ⟨rfl, rfl⟩ := e'
   rw [CM.ext_same] at hL'; cases hL'
   rw [CM.ext_ne _ _ e] at hL; have := h.lt _ _ _ hL; dsimp at hb; omega
  ·rw [CM.ext_ne _ _ e] at hL; rw [CM.ext_ne _ _ e'] at hL'; exact h.excl _ _ _ _ _ _ hL hL' hb hB
 ·intro o ob' ho hg'
  by_cases e : o = id
  ·subst e; rw [hg] at hg'; cases hg'; exact hob
  ·have hob' := h.obj _ _ ho hg'
   refine hob'.frame' hk (fun v L hL => ?_) (fun v L hL => heap_alloc_lt _ _ (h.lt _ _ _ hL))
   rwa [CM.ext_ne _ _ (by omega)] at hL
 ·intro o c len ver ro ho hg' v L hL
  by_cases e : o = id ∧ v = 0
  ·omega
  ·rw [CM.ext_ne _ _ e] at hL
   exact h.top _ _ _ _ _ ho hg' _ _ hL
end Go.Sv
namespace Go.Sv
section canon
variable {P : Program} {n : Nat} {ops : Array Oper} {k : CallT} {L : List DOp} {E0 Ef : Tr AV}
def InS (L : List DOp) (S : Nat → Prop) (t : Nat) : Prop := ∃ y ∈ L, S y.i ∧ y.o.dst = some t
open Classical in
noncomputable def EnvOf (L : List DOp) (E0 Ef : Tr AV) (S : Nat → Prop) (t : Nat) : Option AV := if InS L S t then getP (pathOf t) Ef else getP (pathOf t) E0
def bit (m : Nat) (j : Nat) : Prop := m.testBit j = true
def AgreeS (L : List DOp) (E0 Ef : Tr AV) (S : Nat → Prop) (E : Tr AV) : Prop := ∀ t, t ≤ lim → getP (pathOf t) E = EnvOf L E0 Ef S t
def AgreeX (ops : Array Oper) (L : List DOp) (E0 Ef : Tr AV) (x : DOp) (E : Tr AV) : Prop := ∀ t ∈ looks ops x.o, t ≤ lim → getP (pathOf t) E = EnvOf L E0 Ef (bit x.m) t
def Spec (P : Program) (n : Nat) (ops : Array Oper) (k : CallT) (L : List DOp) (E0 Ef : Tr AV) (x : DOp) (H H' : Heap) : Prop :=
 ∀ E, AgreeX ops L E0 Ef x E → ∃ v, (compOper P n ops x.o).run k E H = .ok (putE x.o.dst v E) H' ∧ ∀ d, x.o.dst = some d → getP (pathOf d) Ef = some v ∧ d < n
def DC (L : List DOp) (S : Nat → Prop) : Prop := ∀ y ∈ L, S y.i → ∀ j, bit y.m j → S j
structure Fit (P : Program) (ops : Array Oper) (L : List DOp) : Prop where
 ok : LOk P ops L
 dst : ∀ x ∈ L, ∀ y ∈ L, ∀ d, x.o.dst = some d → y.o.dst = some d → x = y
 look : ∀ x ∈ L, ∀ y ∈ L, lookOk x y = true
theorem lookOk_spec {x y : DOp} (h : lookOk x y = true) {d : Nat} (hd : y.o.dst = some d) (hl : x.lm.testBit d = true) :
  (x.i = y.i ∧ isRd x = false) ∨ (x.i ≠ y.i ∧ (bit x.m y.i ∨ (bit y.m x.i ∧ isRd x = false))) := by
 unfold lookOk at h
 rw [hd] at h
 dsimp only at h
 rw [hl] at h
 dsimp only at h
 split at h
 ·rename_i e
  exact .inl ⟨Nat.eq_of_beq_eq_true e, by simpa using h⟩
 ·rename_i e
  refine .inr ⟨fun q => ?_, ?_⟩
  ·rw [q, Nat.beq_refl] at e; cases e
  ·split at h
   ·rename_i q; exact .inl q
   ·split at h
    ·rename_i q; exact .inr ⟨q, by simpa using h⟩
    ·cases h
theorem agree (F : Fit P ops L) {S : Nat → Prop} (hS : DC L S) {x : DOp} (hx : x ∈ L) (hm : ∀ j, bit x.m j → S j) (hn : ¬ S x.i ∨ isRd x = true) {E : Tr AV} (hE : AgreeS L E0 Ef S E) : AgreeX ops L E0 Ef x E := by
 intro t ht hl
 rw [hE t hl]
 unfold EnvOf
 have : InS L S t ↔ InS L (bit x.m) t := by
  constructor
  ·rintro ⟨y, hy, hs, hd⟩
   refine ⟨y, hy, ?_, hd⟩
   rcases lookOk_spec (F.look x hx y hy) hd (F.ok.lm x hx t ht) with ⟨e, hr⟩ | ⟨_, h | ⟨h, hr⟩⟩
   ·rcases hn with hn | hn
    ·rw [e] at hn; exact absurd hs hn
    ·rw [hn] at hr; cases hr
   ·exact h
   ·rcases hn with hn | hn
    ·exact absurd (hS y hy hs _ h) hn
    ·rw [hn] at hr; cases hr
  ·rintro ⟨y, hy, hs, hd⟩
   exact ⟨y, hy, hm _ hs, hd⟩
 by_cases h : InS L S t
 ·rw [if_pos h, if_pos (this.1 h)]
 ·rw [if_neg h, if_neg (fun q => h (this.2 q))]
theorem AgreeX.same {x : DOp} {E E' : Tr AV} (h : AgreeX ops L E0 Ef x E) (h' : AgreeX ops L E0 Ef x E') : Same (looks ops x.o) E' E := fun t ht hl => by rw [h t ht hl, h' t ht hl]
theorem get_putE (d : Tmp) (v : AV) (E : Tr AV) : getP (pathOf d) (putE (some d) v E) = some v := get_set_same _ _ _
theorem spec_of_run {x : DOp} {E E1 : Tr AV} {H H1 : Heap} (h : (compOper P n ops x.o).run k E H = .ok E1 H1) (hE : AgreeX ops L E0 Ef x E)
  (hf : ∀ d, x.o.dst = some d → d < n → getP (pathOf d) Ef = getP (pathOf d) E1) : Spec P n ops k L E0 Ef x H H1 := by
 obtain ⟨v, h1, h2, h3⟩ := compOper_shape h
 intro E' hE'
 refine ⟨v, h3 E' (hE.same hE'), fun d hd => ⟨?_, h2 d hd⟩⟩
 rw [hf d hd (h2 d hd), h1, hd, get_putE]
theorem AgreeS.put (F : Fit P ops L) (_hn : n ≤ lim) {S : Nat → Prop} {E : Tr AV} (h : AgreeS L E0 Ef S E) {x : DOp} (hx : x ∈ L) {v : AV} (hv : ∀ d, x.o.dst = some d → getP (pathOf d) Ef = some v ∧ d < n) :
  AgreeS L E0 Ef (fun j => S j ∨ j = x.i) (putE x.o.dst v E) := by
 intro t ht
 have key : InS L (fun j => S j ∨ j = x.i) t ↔ (InS L S t ∨ x.o.dst = some t) := by
  constructor
  ·rintro ⟨y, hy, hs | hs, hd⟩
   ·exact .inl ⟨y, hy, hs, hd⟩
   ·rw [F.ok.inj y hy x hx hs] at hd; exact .inr hd
  ·rintro (⟨y, hy, hs, hd⟩ | hd)
   ·exact ⟨y, hy, .inl hs, hd⟩
   ·exact ⟨x, hx, .inr rfl, hd⟩
 unfold EnvOf
 cases hd : x.o.dst with
 | none =>
  rw [hd] at key
  have : InS L (fun j => S j ∨ j = x.i) t ↔ InS L S t := by rw [key]; simp
  rw [show putE none v E = E from rfl, h t ht]
  unfold EnvOf
  by_cases q : InS L S t
  ·rw [if_pos q, if_pos (this.2 q)]
  ·rw [if_neg q, if_neg (fun z => q (this.1 z))]
 | some d =>
  rw [hd] at key
  obtain ⟨hv1, hv2⟩ := hv d hd
  rw [show putE (some d) v E = setP v (pathOf d) E from rfl, get_set]
  by_cases e : t = d
  ·subst e
   rw [if_pos rfl, if_pos (key.2 (.inr rfl)), hv1]
  ·rw [if_neg e, h t ht]
   unfold EnvOf
   have : InS L (fun j => S j ∨ j = x.i) t ↔ InS L S t := by
    rw [key]
    constructor
    ·rintro (q | q)
     ·exact q
     ·exact absurd (Option.some.inj q).symm e
    ·exact .inl
   by_cases q : InS L S t
   ·rw [if_pos q, if_pos (this.2 q)]
   ·rw [if_neg q, if_neg (fun z => q (this.1 z))]
theorem OE_rec_ok {r : OE} {f : Tr AV → Heap → OE} {E' : Tr AV} {H' : Heap} (h : (OE.rec .no f r : OE) = .ok E' H') : ∃ E1 H1, r = .ok E1 H1 ∧ f E1 H1 = .ok E' H' := by
 cases r with
 | no => cases h
 | ok E1 H1 => exact ⟨E1, H1, rfl, h⟩
theorem Bool_rec_ok {b : Bool} {r : OE} {E' : Tr AV} {H' : Heap} (h : (Bool.rec .no r b : OE) = .ok E' H') : b = true ∧ r = .ok E' H' := by
 cases b with
 | false => cases h
 | true => exact ⟨rfl, h⟩
theorem drawGo_cons {x : DOp} {l pend : List DOp} {E E' : Tr AV} {H H' : Heap} (h : (drawGo P n ops (x :: l) pend).run k E H = .ok E' H') :
  ∃ E1 H1 pend', (compOper P n ops x.o).run k E H = .ok E1 H1 ∧ (drawGo P n ops l pend').run k E1 H1 = .ok E' H' ∧
   ((x.c = .quiet ∧ pend' = pend) ∨ (x.c = .rd ∧ pend' = x :: pend) ∨ (x.c = .al ∧ pend' = x :: pend ∧ (rechecks P ops (x :: pend)).run E1 H1 = true) ∨
    (x.c = .ch ∧ pend' = filterB (fun y => !(Nat.testBit x.m y.i)) pend ∧ (rechecks P ops pend').run E1 H1 = true)) := by
 simp only [drawGo] at h
 split at h
 ·rename_i hc
  obtain ⟨E1, H1, h1, h2⟩ := OE_rec_ok h
  exact ⟨E1, H1, pend, h1, h2, .inl ⟨hc, rfl⟩⟩
 ·rename_i hc
  obtain ⟨E1, H1, h1, h2⟩ := OE_rec_ok h
  exact ⟨E1, H1, x :: pend, h1, h2, .inr (.inl ⟨hc, rfl⟩)⟩
 ·rename_i hc
  obtain ⟨E1, H1, h1, h2⟩ := OE_rec_ok h
  obtain ⟨hr, h2⟩ := Bool_rec_ok h2
  exact ⟨E1, H1, x :: pend, h1, h2, .inr (.inr (.inl ⟨hc, rfl, hr⟩))⟩
 ·rename_i hc
  obtain ⟨E1, H1, h1, h2⟩ := OE_rec_ok h
  obtain ⟨hr, h2⟩ := Bool_rec_ok h2
  exact ⟨E1, H1, _, h1, h2, .inr (.inr (.inr ⟨hc, rfl, hr⟩))⟩
theorem drawGo_frame (hn : n ≤ lim) {d : Nat} (hd : d ≤ lim) : ∀ {l pend : List DOp} {E E' : Tr AV} {H H' : Heap}, (drawGo P n ops l pend).run k E H = .ok E' H' → (∀ y ∈ l, y.o.dst ≠ some d) → getP (pathOf d) E' = getP (pathOf d) E
 | [], _, _, _, _, _, h, _ => by cases h; rfl
 | x :: l, pend, E, E', H, H', h, hy => by
  obtain ⟨E1, H1, pend', h1, h2, _⟩ := drawGo_cons h
  rw [drawGo_frame hn hd h2 (fun y q => hy y (by simp [q]))]
  obtain ⟨v, q1, q2, _⟩ := compOper_shape h1
  rw [q1]
  cases hx : x.o.dst with
  | none => rfl
  | some e =>
   rw [show putE (some e) v E = setP v (pathOf e) E from rfl, get_set_ne]
   intro q
   subst q
   exact hy x (by simp) hx
theorem rechecks_mem : ∀ {l : List DOp} {E : Tr AV} {H : Heap}, (rechecks P ops l).run E H = true → ∀ x ∈ l, (recheck P ops x).run E H = true
 | [], _, _, _, x, hx => by cases hx
 | y :: l, E, H, h, x, hx => by
  simp only [rechecks] at h
  split at h
  ·rename_i hy
   rcases List.mem_cons.1 hx with rfl | hx
   ·exact hy
   ·exact rechecks_mem h x hx
  ·cases h
theorem recheck_spec (F : Fit P ops L) {x : DOp} (hx : x ∈ L) (hr : x.c = .rd) {E : Tr AV} {H H1 : Heap} (hE : AgreeX ops L E0 Ef x E) (hs : Spec P n ops k L E0 Ef x H H) (hf : ∀ d, x.o.dst = some d → getP (pathOf d) Ef = getP (pathOf d) E)
  (h : (recheck P ops x).run E H1 = true) : Spec P n ops k L E0 Ef x H1 H1 := by
 have hrd : Reads (compOp P x.o.op) := cls_spec.2 (by rw [← F.ok.cl x hx]; exact hr)
 obtain ⟨v, h1, h2⟩ := hs E hE
 unfold recheck at h
 cases hd : x.o.dst with
 | none => rw [hd] at h; cases h
 | some d =>
  rw [hd] at h h1
  dsimp only at h
  obtain ⟨hv, hdn⟩ := h2 d hd
  have hp : putF n (some d) = some ⟨fun a E => setP a (pathOf d) E⟩ := by unfold putF; dsimp only; rw [if_pos hdn]
  have hrun : (compOper P n ops x.o).run k E H1 = .ok (putE (some d) v E) H1 := by
   unfold compOper at h1 ⊢
   rw [hd, hp] at h1 ⊢
   dsimp only at h1 ⊢
   cases hg : (guardF ops x.o).run E with
   | false =>
    rw [hg] at h1
    dsimp only at h1 ⊢
    injection h1 with h1
    rw [h1]
   | true =>
    rw [hg] at h h1
    dsimp only at h h1 ⊢
    rw [← hf d hd, hv] at h
    dsimp only at h
    have hq := hrd E H1
    cases hc : (compOp P x.o.op).run E H1 with
    | no => rw [hc] at h; cases h
    | call t args => rw [hc] at h; cases h
    | val v' H2 =>
     rw [hc, hr] at h
     rw [hc] at hq
     dsimp only at h ⊢
     cases hq
     rw [sameB_spec (eqAV_spec _ _ _) h]
     rfl
  refine spec_of_run hrun hE (fun d' hd' _ => ?_)
  rw [hd] at hd'
  cases hd'
  rw [get_putE, hv]
def Skip (P : Program) (n : Nat) (ops : Array Oper) (k : CallT) (L : List DOp) (E0 Ef : Tr AV) (x : DOp) : Prop := ∀ H2, Spec P n ops k L E0 Ef x H2 H2
noncomputable def aid (Ef : Tr AV) (x : DOp) : Nat := ((x.o.dst.bind fun d => getP (pathOf d) Ef).bind idOf).getD 0
def AlAt (P : Program) (n : Nat) (ops : Array Oper) (L : List DOp) (E0 Ef : Tr AV) (x : DOp) (H2 : Heap) : Prop :=
 ∃ d v0, x.o.dst = some d ∧ d < n ∧ getP (pathOf d) Ef = some v0 ∧ idOf v0 = some (aid Ef x) ∧ ∀ E, AgreeX ops L E0 Ef x E → (guardF ops x.o).run E = true ∧
  ∃ v' H', (compOp P x.o.op).run E H2 = .val v' H' ∧ v0 = reId (aid Ef x) v' ∧ ∃ a b, H2.get (aid Ef x) = some a ∧ H'.get H2.next = some b ∧ sameB (eqObj a b) a b = true
theorem compOp_cong' {x : DOp} {E E' : Tr AV} {H : Heap} (hs : Same (looks ops x.o) E' E) : (compOp P x.o.op).run E' H = (compOp P x.o.op).run E H :=
 compOp_cong (Same.opds (fun t ht => hs t (by simp [looks, ht])))
theorem alAt_of {x : DOp} (hal : x.c = .al) {E : Tr AV} {H1 : Heap} (hE : AgreeX ops L E0 Ef x E) (hg : (guardF ops x.o).run E = true) {d : Nat} (hd : x.o.dst = some d) (hdn : d < n) {v0 : AV} (hv : getP (pathOf d) Ef = some v0)
  (hf : getP (pathOf d) E = some v0) (h : (recheck P ops x).run E H1 = true) : AlAt P n ops L E0 Ef x H1 := by
 unfold recheck at h
 rw [hd] at h
 dsimp only at h
 rw [hg, hf] at h
 dsimp only at h
 cases hc : (compOp P x.o.op).run E H1 with
 | no => rw [hc] at h; cases h
 | call t args => rw [hc] at h; cases h
 | val v' H2 =>
  rw [hc, hal] at h
  dsimp only at h
  unfold reMade at h
  cases hid : idOf v0 with
  | none => rw [hid] at h; cases h
  | some id =>
   rw [hid] at h
   dsimp only at h
   have haid : aid Ef x = id := by unfold aid; rw [hd]; simp [hv, hid]
   cases he : sameB (eqAV 30 v0 (reId id v')) v0 (reId id v') with
   | false => rw [he] at h; cases h
   | true =>
    rw [he] at h
    dsimp only at h
    cases h1 : H1.get id with
    | none => rw [h1] at h; cases h
    | some a =>
     cases h2 : H2.get H1.next with
     | none => rw [h1, h2] at h; cases h
     | some b =>
      rw [h1, h2] at h
      refine ⟨d, v0, hd, hdn, hv, by rw [haid, hid], fun E' hE' => ⟨by rw [guardF_cong (hE.same hE')]; exact hg, v', H2, by rw [compOp_cong' (hE.same hE')]; exact hc, by rw [haid]; exact sameB_spec (eqAV_spec _ _ _) he, a, b, by rw [haid]; exact h1, h2, h⟩⟩
theorem al_first (F : Fit P ops L) {x : DOp} (hx : x ∈ L) (hal : x.c = .al) {E E1 : Tr AV} {H H1 : Heap} (h : (compOper P n ops x.o).run k E H = .ok E1 H1) (hE : AgreeX ops L E0 Ef x E) (hE1 : AgreeX ops L E0 Ef x E1)
  (hf : ∀ d, x.o.dst = some d → d < n → getP (pathOf d) Ef = getP (pathOf d) E1) (hre : (recheck P ops x).run E1 H1 = true) :
  (Skip P n ops k L E0 Ef x ∧ H1 = H) ∨ (∃ ob, True ∧ H1 = H.push ob ∧ ObFree ob ∧ aid Ef x = H.next ∧ AlAt P n ops L E0 Ef x H1) := by
 have hmk := cls_mk (P := P) (o := x.o) (by rw [← F.ok.cl x hx]; exact hal) E H
 have h0 := h
 unfold compOper at h
 cases hp : putF n x.o.dst with
 | none => rw [hp] at h; cases h
 | some p =>
  rw [hp] at h
  dsimp only at h
  obtain ⟨hput, hlt⟩ := putF_spec hp
  cases hg : (guardF ops x.o).run E with
  | false =>
   rw [hg] at h
   cases h
   refine .inl ⟨fun H2 => ?_, rfl⟩
   refine spec_of_run (E1 := p.run undefA E) ?_ hE hf
   unfold compOper
   rw [hp]
   dsimp only
   rw [hg]
  | true =>
   rw [hg] at h
   dsimp only at h
   cases hr : (compOp P x.o.op).run E H with
   | no => rw [hr] at h; cases h
   | call t args => rw [hr] at hmk; exact hmk.elim
   | val v H2 =>
    rw [hr] at h hmk
    cases h
    obtain ⟨ob, m1, rfl, m3, m4, _⟩ := hmk
    cases hd : x.o.dst with
    | none =>
     unfold recheck at hre
     rw [hd] at hre
     cases hre
    | some d =>
     have hdn := hlt d hd
     have hfd : getP (pathOf d) (p.run v E) = some v := by rw [hput, hd, get_putE]
     have hv : getP (pathOf d) Ef = some v := by rw [hf d hd hdn, hfd]
     refine .inr ⟨ob, m1, rfl, m4, ?_, alAt_of hal hE1 (by rw [guardF_cong (hE.same hE1)]; exact hg) hd hdn hv hfd hre⟩
     unfold aid
     rw [hd]
     simp [hv, m3]
def PendAt (P : Program) (n : Nat) (ops : Array Oper) (k : CallT) (L : List DOp) (E0 Ef : Tr AV) (x : DOp) (H : Heap) : Prop :=
 (x.c = .rd ∧ Spec P n ops k L E0 Ef x H H) ∨ (x.c = .al ∧ (Skip P n ops k L E0 Ef x ∨ AlAt P n ops L E0 Ef x H))
theorem pend_keep (F : Fit P ops L) {x : DOp} (hx : x ∈ L) {E : Tr AV} {H H1 : Heap} (hE : AgreeX ops L E0 Ef x E) (hs : PendAt P n ops k L E0 Ef x H) (hf : ∀ d, x.o.dst = some d → getP (pathOf d) Ef = getP (pathOf d) E)
  (h : (recheck P ops x).run E H1 = true) : PendAt P n ops k L E0 Ef x H1 := by
 rcases hs with ⟨hc, hs⟩ | ⟨hc, hs | hs⟩
 ·exact .inl ⟨hc, recheck_spec F hx hc hE hs hf h⟩
 ·exact .inr ⟨hc, .inl hs⟩
 ·obtain ⟨d, v0, h1, h2, h3, _, h5⟩ := hs
  exact .inr ⟨hc, .inr (alAt_of hc hE (h5 E hE).1 h1 h2 h3 (by rw [← hf d h1]; exact h3) h)⟩
def AlPh (P : Program) (n : Nat) (ops : Array Oper) (L : List DOp) (E0 Ef : Tr AV) (ch : List DOp) (Hb Hc : Nat → Heap) (x : DOp) (r : Nat) : Prop :=
 r ≤ ch.length ∧ (∀ q c, q < r → ch[q]? = some c → bit x.m c.i) ∧ (Hb r).next ≤ aid Ef x ∧ aid Ef x < (Hc r).next ∧
  ∀ p, r ≤ p → p ≤ ch.length → (∀ q c, r ≤ q → q < p → ch[q]? = some c → ¬ bit c.m x.i) → AlAt P n ops L E0 Ef x (Hc p)
theorem canon (F : Fit P ops L) (hn : n ≤ lim) : ∀ (l pend : List DOp) (seen chs s : Nat) (E : Tr AV) (H H' : Heap), (drawGo P n ops l pend).run k E H = .ok Ef H' → topo l seen chs = some s → (∀ x ∈ l, x ∈ L) →
  (∀ x ∈ pend, x ∈ L ∧ isRd x = true ∧ bit seen x.i ∧ (∀ d, x.o.dst = some d → d < n) ∧ PendAt P n ops k L E0 Ef x H) → AgreeS L E0 Ef (bit seen) E → DC L (bit seen) →
  AgreeS L E0 Ef (bit s) Ef ∧ DC L (bit s) ∧
  ∃ (Hb Hc : Nat → Heap) (ph : Nat → Nat), Hb 0 = H ∧ Hc (filterB isCh l).length = H' ∧ (∀ p, p ≤ (filterB isCh l).length → Ups (Hb p) (Hc p)) ∧
   (∀ q c, (filterB isCh l)[q]? = some c → Spec P n ops k L E0 Ef c (Hc q) (Hb (q + 1))) ∧
   (∀ x ∈ l, x.c = .rd → ∃ r, r ≤ (filterB isCh l).length ∧ (∀ q c, q < r → (filterB isCh l)[q]? = some c → bit x.m c.i) ∧ ∀ p, r ≤ p → p ≤ (filterB isCh l).length → (∀ q c, r ≤ q → q < p → (filterB isCh l)[q]? = some c → ¬ bit c.m x.i) → Spec P n ops k L E0 Ef x (Hc p) (Hc p)) ∧
   (∀ x ∈ l, x.c = .quiet → ∀ H2, Spec P n ops k L E0 Ef x H2 H2) ∧
   (∀ x ∈ l, x.c = .al → Skip P n ops k L E0 Ef x ∨ AlPh P n ops L E0 Ef (filterB isCh l) Hb Hc x (ph x.i)) ∧
   (∀ x ∈ l, ∀ y ∈ l, x.c = .al → y.c = .al → ¬ Skip P n ops k L E0 Ef x → ¬ Skip P n ops k L E0 Ef y → ph x.i = ph y.i → aid Ef x = aid Ef y → x = y) ∧
   (∀ x ∈ pend, ∀ p, p ≤ (filterB isCh l).length → (∀ q c, q < p → (filterB isCh l)[q]? = some c → ¬ bit c.m x.i) → PendAt P n ops k L E0 Ef x (Hc p))
 | [], pend, seen, chs, s, E, H, H', h, ht, hl, hp, hE, hD => by
  cases h
  simp only [topo, Option.some.injEq] at ht
  subst ht
  refine ⟨hE, hD, fun _ => H, fun _ => H, fun _ => 0, rfl, rfl, fun _ _ => .refl _, fun q c hq => (by cases hq), fun x hx => (by cases hx), fun x hx => (by cases hx), fun x hx => (by cases hx), fun x hx => (by cases hx), fun x hx p _ _ => (hp x hx).2.2.2.2⟩
 | x :: l, pend, seen, chs, s, E, H, H', h, ht, hl, hp, hE, hD => by
  obtain ⟨E1, H1, pend', h1, h2, h3⟩ := drawGo_cons h
  obtain ⟨t1, t2, t3⟩ := topo_cons ht
  have hx : x ∈ L := hl x (by simp)
  have hxE : AgreeX ops L E0 Ef x E := agree F hD hx t1 (.inl (by unfold bit; rw [t2]; simp)) hE
  have hnew : ∀ y ∈ l, y.i ≠ x.i := by
   have key : ∀ chs', topo l (Nat.lor (2 ^ x.i) seen) chs' = some s → ∀ y ∈ l, y.i ≠ x.i := fun chs' h' y hy e => by
    have := topo_new h' y hy
    rw [testBit_lor, testBit_pow, e] at this
    simp at this
   rcases t3 with ⟨_, h3⟩ | ⟨_, _, h3⟩ | ⟨_, _, h3⟩ <;> exact key _ h3
  obtain ⟨v, s1, s2, s3⟩ := compOper_shape h1
  have hfin : ∀ d, x.o.dst = some d → d < n → getP (pathOf d) Ef = getP (pathOf d) E1 := fun d hd hdn =>
   drawGo_frame hn (Nat.le_trans (Nat.le_of_lt hdn) hn) h2 (fun y hy e => hnew y hy (by rw [F.dst y (hl y (by simp [hy])) x hx d e hd]))
  have hspec : Spec P n ops k L E0 Ef x H H1 := spec_of_run h1 hxE hfin
  have hS : (bit (Nat.lor (2 ^ x.i) seen)) = fun j => bit seen j ∨ j = x.i := by
   funext j
   unfold bit
   rw [testBit_lor, testBit_pow]
   simp only [Bool.or_eq_true, decide_eq_true_eq, eq_iff_iff]
   constructor
   ·rintro (e | e)
    ·exact .inr e.symm
    ·exact .inl e
   ·rintro (e | e)
    ·exact .inr e
    ·exact .inl e.symm
  have hE1 : AgreeS L E0 Ef (bit (Nat.lor (2 ^ x.i) seen)) E1 := by
   rw [hS, s1]
   refine hE.put F hn hx (fun d hd => ⟨?_, s2 d hd⟩)
   rw [hfin d hd (s2 d hd), s1, hd, get_putE]
  have hD1 : DC L (bit (Nat.lor (2 ^ x.i) seen)) := by
   rw [hS]
   rintro y hy (hs | hs) j hj
   ·exact .inl (hD y hy hs j hj)
   ·rw [F.ok.inj y hy x hx hs] at hj
    exact .inl (t1 j hj)
  have hl' : ∀ y ∈ l, y ∈ L := fun y hy => hl y (by simp [hy])
  have hbit : bit (Nat.lor (2 ^ x.i) seen) x.i := by rw [hS]; exact .inr rfl
  have hmono : ∀ j, bit seen j → bit (Nat.lor (2 ^ x.i) seen) j := fun j hj => by rw [hS]; exact .inl hj
  have hagr : ∀ y, y ∈ L → isRd y = true → bit (Nat.lor (2 ^ x.i) seen) y.i → AgreeX ops L E0 Ef y E1 := fun y a b c => agree F hD1 a (fun j hj => hD1 y a c j hj) (.inr b) hE1
  have hdst : ∀ y, y ∈ L → bit (Nat.lor (2 ^ x.i) seen) y.i → (∀ d, y.o.dst = some d → d < n) → ∀ d, y.o.dst = some d → getP (pathOf d) Ef = getP (pathOf d) E1 := fun y a c hd e he => by
   rw [hE1 e (Nat.le_trans (Nat.le_of_lt (hd e he)) hn)]
   unfold EnvOf
   rw [if_pos ⟨y, a, c, he⟩]
  rcases h3 with ⟨hc, rfl⟩ | ⟨hc, rfl⟩ | ⟨hc, rfl, hre⟩ | ⟨hc, hpe, hre⟩
  ·-- quiet
   have ht' : topo l (Nat.lor (2 ^ x.i) seen) chs = some s := by
    rcases t3 with ⟨_, t3⟩ | ⟨e, _⟩ | ⟨e, _⟩
    ·exact t3
    ·rw [hc] at e; rcases e with e | e <;> cases e
    ·rw [hc] at e; cases e
   have hq : Quiet (compOp P x.o.op) := cls_spec.1 (by rw [← F.ok.cl x hx]; exact hc)
   have hH : H1 = H := compOper_reads hq.reads h1
   subst hH
   have hf : filterB isCh (x :: l) = filterB isCh l := by simp only [filterB]; unfold isCh; rw [hc]
   obtain ⟨r0, r00, Hb, Hc, ph, r1, r2, ru, r3, r4, r5, ra, ri, r6⟩ := canon F hn l pend' _ chs s E1 H1 H' h2 ht' hl' (fun y hy => let ⟨a, b, c, d⟩ := hp y hy; ⟨a, b, hmono _ c, d⟩) hE1 hD1
   rw [hf]
   refine ⟨r0, r00, Hb, Hc, ph, r1, r2, ru, r3, fun y hy hyc => ?_, fun y hy hyc H2 => ?_, fun y hy hyc => ?_, fun y hy z hz hyc hzc => ?_, r6⟩
   ·rcases List.mem_cons.1 hy with rfl | hy
    ·rw [hc] at hyc; cases hyc
    ·exact r4 y hy hyc
   ·rcases List.mem_cons.1 hy with rfl | hy
    ·exact spec_of_run (compOper_quiet hq h1 H2) hxE hfin
    ·exact r5 y hy hyc H2
   ·rcases List.mem_cons.1 hy with rfl | hy
    ·rw [hc] at hyc; cases hyc
    ·exact ra y hy hyc
   ·rcases List.mem_cons.1 hy with rfl | hy
    ·rw [hc] at hyc; cases hyc
    ·rcases List.mem_cons.1 hz with rfl | hz
     ·rw [hc] at hzc; cases hzc
     ·exact ri y hy z hz hyc hzc
  ·-- a read
   have ht' : topo l (Nat.lor (2 ^ x.i) seen) chs = some s := by
    rcases t3 with ⟨e, _⟩ | ⟨_, _, t3⟩ | ⟨e, _⟩
    ·rw [hc] at e; cases e
    ·exact t3
    ·rw [hc] at e; cases e
   have hq : Reads (compOp P x.o.op) := cls_spec.2 (by rw [← F.ok.cl x hx]; exact hc)
   have hH : H1 = H := compOper_reads hq h1
   subst hH
   have hf : filterB isCh (x :: l) = filterB isCh l := by simp only [filterB]; unfold isCh; rw [hc]
   obtain ⟨r0, r00, Hb, Hc, ph, r1, r2, ru, r3, r4, r5, ra, ri, r6⟩ := canon F hn l (x :: pend) _ chs s E1 H1 H' h2 ht' hl' (fun y hy => by
    rcases List.mem_cons.1 hy with rfl | hy
    ·exact ⟨hx, by unfold isRd; rw [hc], hbit, s2, .inl ⟨hc, hspec⟩⟩
    ·obtain ⟨a, b, c, d⟩ := hp y hy
     exact ⟨a, b, hmono _ c, d⟩) hE1 hD1
   rw [hf]
   refine ⟨r0, r00, Hb, Hc, ph, r1, r2, ru, r3, fun y hy hyc => ?_, fun y hy hyc H2 => ?_, fun y hy hyc => ?_, fun y hy z hz hyc hzc => ?_, fun y hy => r6 y (by simp [hy])⟩
   ·rcases List.mem_cons.1 hy with rfl | hy
    ·refine ⟨0, Nat.zero_le _, fun q c hq => absurd hq (Nat.not_lt_zero q), fun p _ hp' hno => ?_⟩
     rcases r6 y (by simp) p hp' (fun q c hq => hno q c (Nat.zero_le q) hq) with ⟨_, h⟩ | ⟨h, _⟩
     ·exact h
     ·rw [hc] at h; cases h
    ·exact r4 y hy hyc
   ·rcases List.mem_cons.1 hy with rfl | hy
    ·rw [hc] at hyc; cases hyc
    ·exact r5 y hy hyc H2
   ·rcases List.mem_cons.1 hy with rfl | hy
    ·rw [hc] at hyc; cases hyc
    ·exact ra y hy hyc
   ·rcases List.mem_cons.1 hy with rfl | hy
    ·rw [hc] at hyc; cases hyc
    ·rcases List.mem_cons.1 hz with rfl | hz
     ·rw [hc] at hzc; cases hzc
     ·exact ri y hy z hz hyc hzc
  ·-- an object is made
   have ht' : topo l (Nat.lor (2 ^ x.i) seen) chs = some s := by
    rcases t3 with ⟨e, _⟩ | ⟨_, _, t3⟩ | ⟨e, _⟩
    ·rw [hc] at e; cases e
    ·exact t3
    ·rw [hc] at e; cases e
   have hrd : isRd x = true := by unfold isRd; rw [hc]
   have hf : filterB isCh (x :: l) = filterB isCh l := by simp only [filterB]; unfold isCh; rw [hc]
   have hal := al_first F hx hc h1 hxE (hagr x hx hrd hbit) hfin (rechecks_mem hre x (by simp))
   have hxp : PendAt P n ops k L E0 Ef x H1 := by
    rcases hal with ⟨h, _⟩ | ⟨_, _, _, _, _, h⟩
    ·exact .inr ⟨hc, .inl h⟩
    ·exact .inr ⟨hc, .inr h⟩
   obtain ⟨r0, r00, Hb, Hc, ph, r1, r2, ru, r3, r4, r5, ra, ri, r6⟩ := canon F hn l (x :: pend) _ chs s E1 H1 H' h2 ht' hl' (fun y hy => by
    rcases List.mem_cons.1 hy with rfl | hy'
    ·exact ⟨hx, hrd, hbit, s2, hxp⟩
    ·obtain ⟨a, b, c, d, e⟩ := hp y hy'
     exact ⟨a, b, hmono _ c, d, pend_keep F a (hagr y a b (hmono _ c)) e (hdst y a (hmono _ c) d) (rechecks_mem hre y hy)⟩) hE1 hD1
   rw [hf]
   have hups : Ups H H1 := by
    rcases hal with ⟨_, rfl⟩ | ⟨ob, q1, rfl, q3, _⟩
    ·exact .refl _
    ·exact .push q1 q3 (.refl _)
   have hu0 : Ups H1 (Hc 0) := by rw [← r1]; exact ru 0 (Nat.zero_le _)
   have htr : ∀ {A B D : Heap}, Ups A B → Ups B D → Ups A D := fun {A B D} h1 => by
    induction h1 with
    | refl => exact id
    | push a b _ ih => exact fun h => .push a b (ih h)
   have hphx : ∀ y ∈ l, (if y.i = x.i then 0 else ph y.i) = ph y.i := fun y hy => if_neg (hnew y hy)
   refine ⟨r0, r00, fun p => match p with
    | 0 => H
    | p + 1 => Hb (p + 1), Hc, fun i => if i = x.i then 0 else ph i, rfl, r2, fun p hp' => ?_, r3, fun y hy hyc => ?_, fun y hy hyc H2 => ?_, fun y hy hyc => ?_, fun y hy z hz hyc hzc hys hzs hph hid => ?_, fun y hy p hp' hno => ?_⟩
   ·cases p with
    | zero => exact htr hups hu0
    | succ p => exact ru (p + 1) hp'
   ·rcases List.mem_cons.1 hy with rfl | hy
    ·rw [hc] at hyc; cases hyc
    ·exact r4 y hy hyc
   ·rcases List.mem_cons.1 hy with rfl | hy
    ·rw [hc] at hyc; cases hyc
    ·exact r5 y hy hyc H2
   ·rcases List.mem_cons.1 hy with rfl | hy
    ·rcases hal with ⟨h, _⟩ | ⟨ob, q1, q2, q3, q4, q5⟩
     ·exact .inl h
     ·refine .inr ?_
      dsimp only
      rw [if_pos rfl]
      refine ⟨Nat.zero_le _, fun q c hq => absurd hq (Nat.not_lt_zero q), Nat.le_of_eq q4.symm, ?_, fun p _ hp' hno => ?_⟩
      ·have := hu0.next
       rw [q2] at this
       rw [q4]
       exact Nat.lt_of_lt_of_le (Nat.lt_succ_self _) this
      ·rcases r6 y (by simp) p hp' (fun q c hq => hno q c (Nat.zero_le q) hq) with ⟨h, _⟩ | ⟨_, h | h⟩
       ·rw [hc] at h; cases h
       ·obtain ⟨d, v0, g1, g2, g3, g4, g5⟩ := q5
        exfalso
        obtain ⟨w1, w2, _⟩ := h H1 E1 (hagr y hx hrd hbit)
        obtain ⟨g6, _⟩ := g5 E1 (hagr y hx hrd hbit)
        have hmk := cls_mk (P := P) (o := y.o) (by rw [← F.ok.cl y hx]; exact hc) E1 H1
        obtain ⟨_, v', H'', g7, _⟩ := g5 E1 (hagr y hx hrd hbit)
        rw [g7] at hmk
        obtain ⟨ob', m1, m2, _⟩ := hmk
        unfold compOper at w2
        have hp' : putF n y.o.dst = some ⟨fun a E => setP a (pathOf d) E⟩ := by rw [g1]; unfold putF; dsimp only; rw [if_pos g2]
        rw [hp'] at w2
        dsimp only at w2
        rw [g6, g7] at w2
        dsimp only at w2
        injection w2 with _ w2
        rw [m2] at w2
        have := congrArg Heap.next w2
        simp [Heap.push] at this
       ·exact h
    ·dsimp only
     rw [hphx y hy]
     refine (ra y hy hyc).imp id fun ⟨a1, a2, a3, a4, a5⟩ => ⟨a1, a2, ?_, a4, a5⟩
     generalize ph y.i = r at a3
     cases r with
     | zero =>
      rw [r1] at a3
      exact Nat.le_trans hups.next a3
     | succ r => exact a3
   ·dsimp only at hph
    have hlow : ∀ u ∈ l, u.c = .al → ¬ Skip P n ops k L E0 Ef u → ph u.i = 0 → ∀ ob, H1 = H.push ob → aid Ef u = H.next → False := fun u hu huc hus hu0 ob he hid' => by
     rcases ra u hu huc with h | ⟨_, _, a3, _⟩
     ·exact hus h
     ·rw [hu0, r1, he, hid'] at a3
      exact absurd a3 (Nat.not_succ_le_self _)
    rcases List.mem_cons.1 hy with ey | hy1
    ·rcases List.mem_cons.1 hz with ez | hz1
     ·rw [ey, ez]
     ·subst ey
      rw [if_pos rfl, hphx z hz1] at hph
      rcases hal with ⟨h, _⟩ | ⟨ob, q1, q2, q3, q4, q5⟩
      ·exact absurd h hys
      ·exact (hlow z hz1 hzc hzs hph.symm ob q2 (by rw [← hid, q4])).elim
    ·rcases List.mem_cons.1 hz with ez | hz1
     ·subst ez
      rw [if_pos rfl, hphx y hy1] at hph
      rcases hal with ⟨h, _⟩ | ⟨ob, q1, q2, q3, q4, q5⟩
      ·exact absurd h hzs
      ·exact (hlow y hy1 hyc hys hph ob q2 (by rw [hid, q4])).elim
     ·rw [hphx y hy1, hphx z hz1] at hph
      exact ri y hy1 z hz1 hyc hzc hys hzs hph hid
   ·exact r6 y (by simp [hy]) p hp' hno
  ·-- the chain
   obtain ⟨tc, ht'⟩ : (∀ j, chs.testBit j = true → x.m.testBit j = true) ∧ topo l (Nat.lor (2 ^ x.i) seen) (Nat.lor (2 ^ x.i) chs) = some s := by
    rcases t3 with ⟨e, _⟩ | ⟨e, _⟩ | ⟨_, t3⟩
    ·rw [hc] at e; cases e
    ·rw [hc] at e; rcases e with e | e <;> cases e
    ·exact t3
   have hf : filterB isCh (x :: l) = x :: filterB isCh l := by simp only [filterB]; unfold isCh; rw [hc]
   have hpm : ∀ y ∈ pend', y ∈ pend ∧ ¬ bit x.m y.i := fun y hy => by
    rw [hpe] at hy
    obtain ⟨a, b⟩ := filterB_mem.1 hy
    exact ⟨a, by unfold bit; simpa using b⟩
   obtain ⟨r0, r00, Hb, Hc, ph, r1, r2, ru, r3, r4, r5, ra, ri, r6⟩ := canon F hn l pend' _ _ s E1 H1 H' h2 ht' hl' (fun y hy => by
    obtain ⟨a, b, c, d, e⟩ := hp y (hpm y hy).1
    exact ⟨a, b, hmono _ c, d, pend_keep F a (hagr y a b (hmono _ c)) e (hdst y a (hmono _ c) d) (rechecks_mem hre y hy)⟩) hE1 hD1
   rw [hf]
   have hbef : ∀ y ∈ l, y.c ≠ .quiet → ∀ r, (∀ q c, q < r → (filterB isCh l)[q]? = some c → bit y.m c.i) → ∀ q c, q < r + 1 → (x :: filterB isCh l)[q]? = some c → bit y.m c.i := fun y hy hyc r u1 q c hq hqc => by
    cases q with
    | zero =>
     simp only [List.getElem?_cons_zero, Option.some.injEq] at hqc
     subst hqc
     refine topo_chs ht' y hy hyc _ ?_
     rw [testBit_lor, testBit_pow]
     simp
    | succ q => exact u1 q c (by omega) (by simpa using hqc)
   refine ⟨r0, r00, fun q => match q with
    | 0 => H
    | q + 1 => Hb q, fun q => match q with
    | 0 => H
    | q + 1 => Hc q, fun i => ph i + 1, rfl, r2, fun p hp' => ?_, fun q c hq => ?_, fun y hy hyc => ?_, fun y hy hyc H2 => ?_, fun y hy hyc => ?_, fun y hy z hz hyc hzc hys hzs hph hid => ?_, fun y hy p hp' hno => ?_⟩
   ·cases p with
    | zero => exact .refl _
    | succ p => simp only [List.length_cons] at hp'; exact ru p (by omega)
   ·cases q with
    | zero =>
     simp only [List.getElem?_cons_zero, Option.some.injEq] at hq
     subst hq
     dsimp only
     rw [r1]
     exact hspec
    | succ q => exact r3 q c (by simpa using hq)
   ·rcases List.mem_cons.1 hy with rfl | hy
    ·rw [hc] at hyc; cases hyc
    ·obtain ⟨r, u0, u1, u2⟩ := r4 y hy hyc
     refine ⟨r + 1, by simp only [List.length_cons]; omega, hbef y hy (by rw [hyc]; exact fun e => by cases e) r u1, fun p hr hp' hno => ?_⟩
     cases p with
     | zero => omega
     | succ p =>
      simp only [List.length_cons] at hp'
      exact u2 p (by omega) (by omega) (fun q c h5 h6 h7 => hno (q + 1) c (by omega) (by omega) (by simpa using h7))
   ·rcases List.mem_cons.1 hy with rfl | hy
    ·rw [hc] at hyc; cases hyc
    ·exact r5 y hy hyc H2
   ·rcases List.mem_cons.1 hy with rfl | hy
    ·rw [hc] at hyc; cases hyc
    ·refine (ra y hy hyc).imp id fun ⟨a1, a2, a3, a4, a5⟩ => ⟨by simp only [List.length_cons]; show ph y.i + 1 ≤ _; omega, hbef y hy (by rw [hyc]; exact fun e => by cases e) _ a2, a3, a4, fun p hr hp' hno => ?_⟩
     dsimp only at hr hno
     cases p with
     | zero => omega
     | succ p =>
      simp only [List.length_cons] at hp'
      exact a5 p (by omega) (by omega) (fun q c h5 h6 h7 => hno (q + 1) c (by omega) (by omega) (by simpa using h7))
   ·rcases List.mem_cons.1 hy with rfl | hy
    ·rw [hc] at hyc; cases hyc
    ·rcases List.mem_cons.1 hz with rfl | hz
     ·rw [hc] at hzc; cases hzc
     ·exact ri y hy z hz hyc hzc hys hzs (Nat.succ.inj hph) hid
   ·cases p with
    | zero => exact (hp y hy).2.2.2.2
    | succ p =>
     simp only [List.length_cons] at hp'
     have h0 := hno 0 x (by omega) (by simp)
     refine r6 y ?_ p (by omega) (fun q c h6 h7 => hno (q + 1) c (by omega) (by simpa using h7))
     rw [hpe]
     refine filterB_mem.2 ⟨hy, ?_⟩
     unfold bit at h0
     simpa using h0
theorem chain_order : ∀ {l : List DOp} {seen chs s : Nat}, topo l seen chs = some s → ∀ (q q' : Nat) (c c' : DOp), q < q' → (filterB isCh l)[q]? = some c → (filterB isCh l)[q']? = some c' → bit c'.m c.i
 | [], _, _, _, _, q, q', c, c', _, h, _ => by simp [filterB] at h
 | x :: l, seen, chs, s, ht, q, q', c, c', hlt, h, h' => by
  obtain ⟨_, _, t3⟩ := topo_cons ht
  rcases t3 with ⟨hc, t⟩ | ⟨hc, _, t⟩ | ⟨hc, _, t⟩
  ·have hf : filterB isCh (x :: l) = filterB isCh l := by simp only [filterB]; unfold isCh; rw [hc]
   rw [hf] at h h'
   exact chain_order t q q' c c' hlt h h'
  ·have hf : filterB isCh (x :: l) = filterB isCh l := by simp only [filterB]; unfold isCh; rcases hc with hc | hc <;> rw [hc]
   rw [hf] at h h'
   exact chain_order t q q' c c' hlt h h'
  ·have hf : filterB isCh (x :: l) = x :: filterB isCh l := by simp only [filterB]; unfold isCh; rw [hc]
   rw [hf] at h h'
   cases q' with
   | zero => omega
   | succ q' =>
    simp only [List.getElem?_cons_succ] at h'
    cases q with
    | zero =>
     simp only [List.getElem?_cons_zero, Option.some.injEq] at h
     subst h
     obtain ⟨hm, hch⟩ := filterB_mem.1 (List.mem_iff_getElem?.2 ⟨_, h'⟩)
     refine topo_chs t c' hm (by rw [isCh_iff.1 hch]; exact fun e => by cases e) _ ?_
     rw [testBit_lor, testBit_pow]
     simp
    | succ q => exact chain_order t q q' c c' (by omega) (by simpa using h) h'
end canon
end Go.Sv
namespace Go.Sv
section sched
variable {P : Program} {n : Nat} {ops : Array Oper} {k : CallT} {L : List DOp} {E0 Ef : Tr AV}
theorem topo_first {S : Nat → Prop} : ∀ {l : List DOp} {seen chs s : Nat}, topo l seen chs = some s → (∀ j, bit seen j → S j) → (∀ x ∈ l, S x.i) ∨ ∃ x ∈ l, ¬ S x.i ∧ ∀ j, bit x.m j → S j
 | [], _, _, _, _, _ => .inl fun x hx => by cases hx
 | x :: l, seen, chs, s, h, hs => by
  obtain ⟨t1, t2, t3⟩ := topo_cons h
  by_cases hx : S x.i
  ·have key : ∀ chs', topo l (Nat.lor (2 ^ x.i) seen) chs' = some s → (∀ y ∈ x :: l, S y.i) ∨ ∃ y ∈ x :: l, ¬ S y.i ∧ ∀ j, bit y.m j → S j := fun chs' h' => by
    rcases topo_first h' (S := S) (fun j hj => by
     unfold bit at hj
     rw [testBit_lor, testBit_pow] at hj
     simp only [Bool.or_eq_true, decide_eq_true_eq] at hj
     rcases hj with rfl | hj
     ·exact hx
     ·exact hs j hj) with q | ⟨y, hy, q⟩
    ·exact .inl fun y hy => by
      rcases List.mem_cons.1 hy with rfl | hy
      ·exact hx
      ·exact q y hy
    ·exact .inr ⟨y, by simp [hy], q⟩
   rcases t3 with ⟨_, t3⟩ | ⟨_, _, t3⟩ | ⟨_, _, t3⟩ <;> exact key _ t3
  ·exact .inr ⟨x, by simp, hx, fun j hj => hs j (t1 j hj)⟩
def Done (listed : Array Bool) (i : Nat) : Prop := listed.getD i false = true
theorem done_set {listed : Array Bool} {i : Nat} (hi : i < listed.size) (j : Nat) : Done (listed.setIfInBounds i true) j ↔ (Done listed j ∨ j = i) := by
 unfold Done
 rw [Array.getD_eq_getD_getElem?, Array.getElem?_setIfInBounds, Array.getD_eq_getD_getElem?]
 by_cases e : i = j
 ·subst e; simp [hi]
 ·have : ¬ j = i := fun q => e q.symm
  simp [e, this]
theorem mem_ready {listed : Array Bool} {i : Nat} (hs : listed.size = ops.size) : i ∈ Region.ready .any ops listed ↔ i < ops.size ∧ ¬ Done listed i ∧ ∃ o, ops[i]? = some o ∧ ∀ e ∈ o.after.toList, Region.binds .any e = true → Done listed e.on := by
 unfold Region.ready Done
 simp only [List.mem_filter, List.mem_range, Bool.and_eq_true, Bool.not_eq_true']
 constructor
 ·rintro ⟨h1, h2, h3⟩
  refine ⟨h1, ?_, ?_⟩
  ·rw [Array.getD_eq_getD_getElem?, Array.getElem?_eq_getElem (by omega)] at h2 ⊢
   simpa using h2
  ·rw [Array.getElem?_eq_getElem h1] at h3
   simp only [Option.map_some, Option.getD_some] at h3
   refine ⟨ops[i], Array.getElem?_eq_getElem h1, fun e he hb => ?_⟩
   have := Array.all_eq_true_iff_forall_mem.1 h3 e (by simpa using he)
   rw [hb] at this
   simpa using this
 ·rintro ⟨h1, h2, o, h3, h4⟩
  refine ⟨h1, ?_, ?_⟩
  ·rw [Array.getD_eq_getD_getElem?, Array.getElem?_eq_getElem (by omega)] at h2 ⊢
   simpa using h2
  ·rw [h3]
   simp only [Option.map_some, Option.getD_some]
   refine Array.all_eq_true_iff_forall_mem.2 fun e he => ?_
   cases hb : Region.binds .any e with
   | false => rfl
   | true => simpa using h4 e (by simpa using he) hb
theorem unbound {C C1 : CM} (h : C.le C1) {o : Nat} (hn : ∀ v, C o v = none) (ho : o < C.nx) (v : Nat) : C1 o v = none := by
 cases e : C1 o v with
 | none => rfl
 | some L =>
  rcases h.new _ _ _ e with ⟨v', L', e'⟩ | e'
  ·rw [hn] at e'; cases e'
  ·omega
structure Pends (P : Program) (n : Nat) (ops : Array Oper) (k : CallT) (L : List DOp) (E0 Ef : Tr AV) (ord : List DOp) (ph : Nat → Nat) (C0 C : CM) (Hp : Heap) (D : Nat → Prop) (p : Nat) : Prop where
 known : ∀ x ∈ ord, x.c = .al → ¬ Skip P n ops k L E0 Ef x → ph x.i ≤ p → C0.nx ≤ aid Ef x ∧ aid Ef x < Hp.next
 inj : ∀ x ∈ ord, ∀ y ∈ ord, x.c = .al → y.c = .al → ¬ Skip P n ops k L E0 Ef x → ¬ Skip P n ops k L E0 Ef y → ph x.i ≤ p → ph y.i ≤ p → aid Ef x = aid Ef y → x = y
 pend : ∀ x ∈ ord, x.c = .al → ¬ Skip P n ops k L E0 Ef x → ph x.i ≤ p → ¬ D x.i → ∀ v, C (aid Ef x) v = none
theorem oper_al (F : Fit P ops L) {x : DOp} (hx : x ∈ L) (hal : x.c = .al) (ho : ops[x.i]? = some x.o) {w0 : World} {C : CM} {H : Heap} {w : World} {E : Tr AV} {a : Act} (hR : Rel w0 C H w) (hE : ER n C E a.tmps)
  (hxE : AgreeX ops L E0 Ef x E) (hat : AlAt P n ops L E0 Ef x H) (hid : aid Ef x < H.next) (hn : ∀ v, C (aid Ef x) v = none) (b : Frame) (rest : List Nat) (kk : List Item) (cs : List Frame) :
  ∃ (Lc : Loc) (w' : World) (xv : Value) (v : AV), Rel w0 (C.ext (aid Ef x) 0 Lc) H w' ∧ C.keep (C.ext (aid Ef x) 0 Lc) ∧ VR (C.ext (aid Ef x) 0 Lc) v xv ∧ (∀ d, x.o.dst = some d → getP (pathOf d) Ef = some v ∧ d < n) ∧
   Steps P (lone (b.atR a (.inRegion ops (x.i :: rest) :: kk)) cs w) (lone (b.atR (a.put x.o.dst xv) (.inRegion ops rest :: kk)) cs w') := by
 obtain ⟨d, v0, g1, g2, g3, g4, g5⟩ := hat
 obtain ⟨hg, v', H', h1, h2, oa, ob', h3, h4, h5⟩ := g5 E hxE
 have hmk := cls_mk (P := P) (o := x.o) (by rw [← F.ok.cl x hx]; exact hal) E H
 rw [h1] at hmk
 obtain ⟨ob, m1, rfl, m3, m4, m5⟩ := hmk
 rw [Heap.get_push_same] at h4
 cases h4
 obtain ⟨blk, n', sz, xv, q1, q2⟩ := m5 C w a.eval (opd_spec hE)
 have hk : C.keep (C.ext (aid Ef x) 0 ⟨w.heap.size, 0, n', sz⟩) := fun o' v' L' h' => by
  by_cases e : o' = aid Ef x ∧ v' = 0
  ·obtain ⟨rfl, rfl⟩ := e; rw [hn] at h'; cases h'
  ·rw [CM.ext_ne C _ e]; exact h'
 obtain ⟨q3, q4⟩ := q2 _ (aid Ef x) hk (CM.ext_same _ _ _ _)
 obtain ⟨q5, _⟩ := hR.bind hid hn h3 blk ((q4 _ hR.low.size).same h5)
 have hw : Region.wanted x.o (yielded ops a.tmps) = true := by rw [← guardF_spec hE ops x.o]; exact hg
 have hnd := not_defer (P := P) (o := x.o) (E := E) (H := H) (by rw [h1]; intro e; cases e)
 refine ⟨_, _, xv, v0, q5, hk, by rw [h2]; exact q3, fun d' hd' => ?_, .one (step_val ho hw hnd q1)⟩
 rw [g1] at hd'
 cases hd'
 exact ⟨g3, g2⟩
theorem sched (hk : SoundCall P k) (F : Fit P ops L) (hn : n ≤ lim) {ord : List DOp} {s : Nat} (hto : topo ord 0 0 = some s) (hord : ∀ x ∈ ord, x ∈ L) (hall : ∀ i, i < ops.size → bit s i) (hEf : AgreeS L E0 Ef (bit s) Ef)
  {Hb Hc : Nat → Heap} {ph : Nat → Nat} (hU : ∀ p, p ≤ (filterB isCh ord).length → Ups (Hb p) (Hc p))
  (hA : ∀ q c, (filterB isCh ord)[q]? = some c → Spec P n ops k L E0 Ef c (Hc q) (Hb (q + 1)))
  (hB : ∀ x ∈ ord, x.c = .rd → ∃ r, r ≤ (filterB isCh ord).length ∧ (∀ q c, q < r → (filterB isCh ord)[q]? = some c → bit x.m c.i) ∧ ∀ p, r ≤ p → p ≤ (filterB isCh ord).length → (∀ q c, r ≤ q → q < p → (filterB isCh ord)[q]? = some c → ¬ bit c.m x.i) → Spec P n ops k L E0 Ef x (Hc p) (Hc p))
  (hB' : ∀ x ∈ ord, x.c = .quiet → ∀ H2, Spec P n ops k L E0 Ef x H2 H2)
  (hL : ∀ x ∈ ord, x.c = .al → Skip P n ops k L E0 Ef x ∨ AlPh P n ops L E0 Ef (filterB isCh ord) Hb Hc x (ph x.i))
  (hI : ∀ x ∈ ord, ∀ y ∈ ord, x.c = .al → y.c = .al → ¬ Skip P n ops k L E0 Ef x → ¬ Skip P n ops k L E0 Ef y → ph x.i = ph y.i → aid Ef x = aid Ef y → x = y)
  {w0 : World} {C0 : CM} (b : Frame) (kk : List Item) (cs : List Frame) :
  ∀ (fuel t : Nat) (listed : Array Bool) (T : List Nat) (p : Nat) (C : CM) (w : World) (a : Act) (E : Tr AV), listed.size = ops.size → T.length ≤ fuel → (∀ i, i < ops.size → ¬ Done listed i → i ∈ T) →
   AgreeS L E0 Ef (Done listed) E → DC L (Done listed) → Rel w0 C (Hc p) w → ER n C E a.tmps → (∀ q c, (filterB isCh ord)[q]? = some c → (Done listed c.i ↔ q < p)) → p ≤ (filterB isCh ord).length →
   C0.le C → Pends P n ops k L E0 Ef ord ph C0 C (Hc p) (Done listed) p →
   ∃ C' w' a', C0.le C' ∧ Rel w0 C' (Hc (filterB isCh ord).length) w' ∧ ER n C' Ef a'.tmps ∧ a'.defers = a.defers ∧
    Steps P (lone (b.atR a (.inRegion ops (Region.linearise.go .any ops fuel t listed []) :: kk)) cs w) (lone (b.atR a' (.inRegion ops [] :: kk)) cs w') := by
 have hin : ∀ x ∈ L, x ∈ ord := fun x hx => by
  rcases (topo_seen hto x.i).1 (hall x.i (F.ok.op x hx).2) with h | ⟨y, hy, e⟩
  ·simp at h
  ·rwa [← F.ok.inj y (hord y hy) x hx e]
 have hend : ∀ (listed : Array Bool) (p : Nat) (C : CM) (w : World) (a : Act) (E : Tr AV), (∀ i, i < ops.size → Done listed i) → AgreeS L E0 Ef (Done listed) E → Rel w0 C (Hc p) w → ER n C E a.tmps →
   (∀ q c, (filterB isCh ord)[q]? = some c → (Done listed c.i ↔ q < p)) → p ≤ (filterB isCh ord).length → C0.le C →
   ∃ C' w' a', C0.le C' ∧ Rel w0 C' (Hc (filterB isCh ord).length) w' ∧ ER n C' Ef a'.tmps ∧ a'.defers = a.defers ∧
    Steps P (lone (b.atR a (.inRegion ops [] :: kk)) cs w) (lone (b.atR a' (.inRegion ops [] :: kk)) cs w') := by
  intro listed p C w a E hd hE hR hER hch hp hC0
  have hpl : p = (filterB isCh ord).length := by
   rcases Nat.lt_or_ge p (filterB isCh ord).length with h | h
   ·have hm := List.getElem_mem h
    have := (hch p _ (List.getElem?_eq_getElem h)).1 (hd _ (F.ok.op _ (hord _ (filterB_mem.1 hm).1)).2)
    omega
   ·omega
  subst hpl
  refine ⟨C, w, a, hC0, hR, ⟨hER.1, hER.2.1, fun t ht => ?_⟩, rfl, .refl _ _⟩
  have e : getP (pathOf t) Ef = getP (pathOf t) E := by
   rw [hE t ht, hEf t ht]
   unfold EnvOf
   have : InS L (bit s) t ↔ InS L (Done listed) t := by
    constructor
    ·rintro ⟨y, hy, _, h⟩; exact ⟨y, hy, hd _ (F.ok.op y hy).2, h⟩
    ·rintro ⟨y, hy, _, h⟩; exact ⟨y, hy, hall _ (F.ok.op y hy).2, h⟩
   by_cases q : InS L (bit s) t
   ·rw [if_pos q, if_pos (this.1 q)]
   ·rw [if_neg q, if_neg (fun z => q (this.2 z))]
  rw [e]
  exact hER.2.2 t ht
 intro fuel
 induction fuel with
 | zero =>
  intro t listed T p C w a E hs hT hTm hE hD hR hER hch hp hC0 hPe
  have hd : ∀ i, i < ops.size → Done listed i := fun i hi => by
   by_cases h : Done listed i
   ·exact h
   ·have := hTm i hi h
    have hT0 : T = [] := List.eq_nil_of_length_eq_zero (by omega)
    rw [hT0] at this
    cases this
  exact hend listed p C w a E hd hE hR hER hch hp hC0
 | succ fuel ih =>
  intro t listed T p C w a E hs hT hTm hE hD hR hER hch hp hC0 hPe
  simp only [Region.linearise.go]
  change ∃ C' w' a', C0.le C' ∧ Rel w0 C' (Hc (filterB isCh ord).length) w' ∧ ER n C' Ef a'.tmps ∧ a'.defers = a.defers ∧
   Steps P (lone (b.atR a (.inRegion ops (match (Region.ready .any ops listed)[t % (Region.ready .any ops listed).length]? with
    | some i => Region.linearise.go .any ops fuel (t / (Region.ready .any ops listed).length) (listed.setIfInBounds i true) [i]
    | none => [].reverse) :: kk)) cs w) (lone (b.atR a' (.inRegion ops [] :: kk)) cs w')
  cases hi : (Region.ready .any ops listed)[t % (Region.ready .any ops listed).length]? with
  | none =>
   have hnil : Region.ready .any ops listed = [] := by
    cases hr : Region.ready .any ops listed with
    | nil => rfl
    | cons x xs =>
     rw [hr] at hi
     have hlt : t % (x :: xs).length < (x :: xs).length := Nat.mod_lt _ (by simp)
     rw [List.getElem?_eq_getElem hlt] at hi
     cases hi
   have hd : ∀ i, i < ops.size → Done listed i := by
    rcases topo_first hto (S := Done listed) (fun j hj => by simp [bit] at hj) with h | ⟨x, hx, h1, h2⟩
    ·intro i hi
     obtain ⟨x, hx, rfl⟩ := F.ok.all i hi
     exact h x (hin x hx)
    ·have hxL := hord x hx
     obtain ⟨ho, hlt⟩ := F.ok.op x hxL
     have : x.i ∈ Region.ready .any ops listed := (mem_ready hs).2 ⟨hlt, h1, x.o, ho, fun e he hb => h2 _ (F.ok.edge x hxL e he hb)⟩
     rw [hnil] at this
     cases this
   exact hend listed p C w a E hd hE hR hER hch hp hC0
  | some i =>
   dsimp only
   rw [linearise_go_acc, List.reverse_singleton, List.singleton_append]
   obtain ⟨hlt, hnd, o, ho, hdeps⟩ := (mem_ready hs).1 (List.mem_of_getElem? hi)
   obtain ⟨x, hx, rfl⟩ := F.ok.all i hlt
   have hox := (F.ok.op x hx).1
   rw [ho] at hox
   cases hox
   have hmask : ∀ j, bit x.m j → Done listed j := fun j hj => by
    obtain ⟨e, he, hb, rfl | ⟨y, hy, e1, e2⟩⟩ := F.ok.msk x hx j hj
    ·exact hdeps e he hb
    ·exact hD y hy (by rw [e1]; exact hdeps e he hb) j e2
   have hxE : AgreeX ops L E0 Ef x E := agree F hD hx hmask (.inl hnd) hE
   have hxo := hin x hx
   have hstep : ∃ p' C1 w1 xv v, C0.le C1 ∧ Rel w0 C1 (Hc p') w1 ∧ ER n C1 (putE x.o.dst v E) (a.put x.o.dst xv).tmps ∧ (∀ d, x.o.dst = some d → getP (pathOf d) Ef = some v ∧ d < n) ∧
     Steps P (lone (b.atR a (.inRegion ops (x.i :: Region.linearise.go .any ops fuel (t / (Region.ready .any ops listed).length) (listed.setIfInBounds x.i true) []) :: kk)) cs w)
      (lone (b.atR (a.put x.o.dst xv) (.inRegion ops (Region.linearise.go .any ops fuel (t / (Region.ready .any ops listed).length) (listed.setIfInBounds x.i true) []) :: kk)) cs w1) ∧
     p' ≤ (filterB isCh ord).length ∧ (∀ q c, (filterB isCh ord)[q]? = some c → ((Done listed c.i ∨ c.i = x.i) ↔ q < p')) ∧
     Pends P n ops k L E0 Ef ord ph C0 C1 (Hc p') (fun j => Done listed j ∨ j = x.i) p' := by
    have hsame : x.c ≠ .ch → ∀ q c, (filterB isCh ord)[q]? = some c → ((Done listed c.i ∨ c.i = x.i) ↔ q < p) := fun hne q c hq => by
     rw [← hch q c hq]
     constructor
     ·rintro (h | h)
      ·exact h
      ·obtain ⟨hm, hc⟩ := filterB_mem.1 (List.mem_iff_getElem?.2 ⟨_, hq⟩)
       rw [F.ok.inj c (hord c hm) x hx h] at hc
       exact absurd (isCh_iff.1 hc) hne
     ·exact .inl
    have hahead : ∀ r, r ≤ (filterB isCh ord).length → (∀ q c, q < r → (filterB isCh ord)[q]? = some c → bit x.m c.i) → r ≤ p := fun r u0 u1 => by
     rcases Nat.lt_or_ge p r with h | h
     ·have hpl : p < (filterB isCh ord).length := by omega
      have := (hch p _ (List.getElem?_eq_getElem hpl)).1 (hmask _ (u1 p _ h (List.getElem?_eq_getElem hpl)))
      omega
     ·exact h
    have hnone : ∀ r q c, r ≤ q → q < p → (filterB isCh ord)[q]? = some c → ¬ bit c.m x.i := fun r q c _ hq hqc hb => by
     have hm := (filterB_mem.1 (List.mem_iff_getElem?.2 ⟨_, hqc⟩)).1
     exact hnd (hD c (hord c hm) ((hch q c hqc).2 hq) _ hb)
    have hstay := fun (hne : x.c ≠ .ch) (hsp : Spec P n ops k L E0 Ef x (Hc p) (Hc p)) => show ∃ p' C1 w1 xv v, C0.le C1 ∧ Rel w0 C1 (Hc p') w1 ∧ ER n C1 (putE x.o.dst v E) (a.put x.o.dst xv).tmps ∧ (∀ d, x.o.dst = some d → getP (pathOf d) Ef = some v ∧ d < n) ∧
     Steps P (lone (b.atR a (.inRegion ops (x.i :: Region.linearise.go .any ops fuel (t / (Region.ready .any ops listed).length) (listed.setIfInBounds x.i true) []) :: kk)) cs w)
      (lone (b.atR (a.put x.o.dst xv) (.inRegion ops (Region.linearise.go .any ops fuel (t / (Region.ready .any ops listed).length) (listed.setIfInBounds x.i true) []) :: kk)) cs w1) ∧
     p' ≤ (filterB isCh ord).length ∧ (∀ q c, (filterB isCh ord)[q]? = some c → ((Done listed c.i ∨ c.i = x.i) ↔ q < p')) ∧
     Pends P n ops k L E0 Ef ord ph C0 C1 (Hc p') (fun j => Done listed j ∨ j = x.i) p' from by
     obtain ⟨v, hrun, hfin⟩ := hsp E hxE
     obtain ⟨C1, w1, xv, av, q1, q2, q3, q4, q5, q6⟩ := oper_core hk ho hR hER hrun b (Region.linearise.go .any ops fuel (t / (Region.ready .any ops listed).length) (listed.setIfInBounds x.i true) []) kk cs
     refine ⟨p, C1, w1, xv, v, CM.le_trans hC0 q1, q2, by rw [q4]; exact (hER.mono q1).put q5 q3, hfin, q6, hp, hsame hne, ⟨hPe.known, hPe.inj, fun y hy hyc hys hyp hyd v => ?_⟩⟩
     exact unbound q1 (hPe.pend y hy hyc hys hyp (fun h => hyd (.inl h))) (by rw [hR.nx]; exact (hPe.known y hy hyc hys hyp).2) v
    cases hc : x.c with
    | quiet => exact hstay (by rw [hc]; exact fun e => by cases e) (hB' x hxo hc _)
    | rd =>
     obtain ⟨r, u0, u1, u2⟩ := hB x hxo hc
     exact hstay (by rw [hc]; exact fun e => by cases e) (u2 p (hahead r u0 u1) hp (hnone r))
    | al =>
     by_cases hsk : Skip P n ops k L E0 Ef x
     ·exact hstay (by rw [hc]; exact fun e => by cases e) (hsk _)
     ·rcases hL x hxo hc with h | ⟨u0, u1, u2, u3, u4⟩
      ·exact absurd h hsk
      ·have hrp := hahead _ u0 u1
       have hat := u4 p hrp hp (hnone _)
       obtain ⟨k1, k2⟩ := hPe.known x hxo hc hsk hrp
       have hunb := hPe.pend x hxo hc hsk hrp hnd
       obtain ⟨Lc, w1, xv, v, q1, q2, q3, q4, q5⟩ := oper_al F hx hc ho hR hER hxE hat k2 hunb b (Region.linearise.go .any ops fuel (t / (Region.ready .any ops listed).length) (listed.setIfInBounds x.i true) []) kk cs
       refine ⟨p, _, w1, xv, v, ⟨fun o v L h => q2 _ _ _ (hC0.keep _ _ _ h), Nat.le_trans hC0.nx (Nat.le_max_left _ _), fun o v L h => ?_⟩, q1, (hER.mono' q2).put (fun t ht => (q4 t ht).2) q3, q4, q5, hp, hsame (by rw [hc]; exact fun e => by cases e),
        ⟨hPe.known, hPe.inj, fun y hy hyc hys hyp hyd v => ?_⟩⟩
       ·by_cases e : o = aid Ef x ∧ v = 0
        ·obtain ⟨rfl, rfl⟩ := e; exact .inr k1
        ·rw [CM.ext_ne _ _ e] at h; exact hC0.new _ _ _ h
       ·have hne : aid Ef y ≠ aid Ef x := fun e => hyd (.inr (by rw [hPe.inj y hy x hxo hyc hc hys hsk hyp hrp e]))
        rw [CM.ext_ne _ _ (fun e => hne e.1)]
        exact hPe.pend y hy hyc hys hyp (fun h => hyd (.inl h)) v
    | ch =>
     obtain ⟨q, hq⟩ := List.mem_iff_getElem?.1 (filterB_mem.2 ⟨hxo, isCh_iff.2 hc⟩)
     have hq1 : ¬ q < p := fun h => hnd ((hch q x hq).2 h)
     have hql := (List.getElem?_eq_some_iff.1 hq).1
     have hqp : q = p := by
      rcases Nat.lt_or_ge p q with h | h
      ·have hpl : p < (filterB isCh ord).length := by omega
       have := (hch p _ (List.getElem?_eq_getElem hpl)).1 (hmask _ (chain_order hto p q _ x h (List.getElem?_eq_getElem hpl) hq))
       omega
      ·omega
     subst hqp
     obtain ⟨v, hrun, hfin⟩ := hA q x hq E hxE
     obtain ⟨C1, w1, xv, av, q1, q2, q3, q4, q5, q6⟩ := oper_core hk ho hR hER hrun b (Region.linearise.go .any ops fuel (t / (Region.ready .any ops listed).length) (listed.setIfInBounds x.i true) []) kk cs
     have hups := hU (q + 1) (by omega)
     have hle : C1.le (C1.lift (Hc (q + 1)).next) := CM.le_lift (by rw [q2.nx]; exact hups.next)
     have hnx : (Hc q).next ≤ (Hb (q + 1)).next := by rw [← hR.nx, ← q2.nx]; exact q1.nx
     have hnew : ∀ y ∈ ord, y.c = .al → ¬ Skip P n ops k L E0 Ef y → ph y.i = q + 1 → (Hb (q + 1)).next ≤ aid Ef y ∧ aid Ef y < (Hc (q + 1)).next := fun y hy hyc hys hyp => by
      rcases hL y hy hyc with h | ⟨_, _, u2, u3, _⟩
      ·exact absurd h hys
      ·rw [hyp] at u2 u3; exact ⟨u2, u3⟩
     have hun := hups.next
     refine ⟨q + 1, C1.lift (Hc (q + 1)).next, w1, xv, v, CM.le_trans hC0 (CM.le_trans q1 hle), q2.ups hups, by rw [q4]; exact ((hER.mono q1).put q5 q3).mono hle, hfin, q6, by omega, fun q' c hq' => ?_, ⟨fun y hy hyc hys hyp => ?_, fun y hy z hz hyc hzc hys hzs hyp hzp hid => ?_, fun y hy hyc hys hyp hyd v => ?_⟩⟩
     ·rw [hch q' c hq']
      constructor
      ·rintro (h | h)
       ·omega
       ·have hm := (filterB_mem.1 (List.mem_iff_getElem?.2 ⟨_, hq'⟩)).1
        have e := F.ok.inj c (hord c hm) x hx h
        subst e
        rcases Nat.lt_trichotomy q' q with h' | h' | h'
        ·omega
        ·omega
        ·exact absurd (hmask _ (chain_order hto q q' c c h' hq hq')) hnd
      ·intro h
       rcases Nat.lt_or_ge q' q with h' | h'
       ·exact .inl h'
       ·have : q' = q := by omega
        subst this
        rw [hq] at hq'
        cases hq'
        exact .inr rfl
     ·rcases Nat.lt_or_ge (ph y.i) (q + 1) with h | h
      ·obtain ⟨k1, k2⟩ := hPe.known y hy hyc hys (by omega)
       exact ⟨k1, by omega⟩
      ·obtain ⟨k1, k2⟩ := hnew y hy hyc hys (by omega)
       have := (CM.le_trans hC0 q1).nx
       rw [q2.nx] at this
       exact ⟨Nat.le_trans this k1, k2⟩
     ·rcases Nat.lt_or_ge (ph y.i) (q + 1) with h | h <;> rcases Nat.lt_or_ge (ph z.i) (q + 1) with h' | h'
      ·exact hPe.inj y hy z hz hyc hzc hys hzs (by omega) (by omega) hid
      ·have k1 := (hPe.known y hy hyc hys (by omega)).2
       have k2 := (hnew z hz hzc hzs (by omega)).1
       omega
      ·have k1 := (hPe.known z hz hzc hzs (by omega)).2
       have k2 := (hnew y hy hyc hys (by omega)).1
       omega
      ·exact hI y hy z hz hyc hzc hys hzs (by omega) hid
     ·show C1.f (aid Ef y) v = none
      rcases Nat.lt_or_ge (ph y.i) (q + 1) with h | h
      ·exact unbound q1 (hPe.pend y hy hyc hys (by omega) (fun h => hyd (.inl h))) (by rw [hR.nx]; exact (hPe.known y hy hyc hys (by omega)).2) v
      ·have k1 := (hnew y hy hyc hys (by omega)).1
       cases e : C1.f (aid Ef y) v with
       | none => rfl
       | some L' => have := q2.fresh _ _ _ e; omega
   obtain ⟨p', C1, w1, xv, v, q1, q2, hER1, hfin, q6, hp', hch', hPe'⟩ := hstep
   have hset := done_set (listed := listed) (i := x.i) (by omega)
   have hseq : Done (listed.setIfInBounds x.i true) = fun j => Done listed j ∨ j = x.i := funext fun j => propext (hset j)
   have hE1 : AgreeS L E0 Ef (Done (listed.setIfInBounds x.i true)) (putE x.o.dst v E) := by
    have := hE.put F hn hx hfin
    rw [hseq]
    exact this
   obtain ⟨C2, w2, a2, r1, r2, r3, r4, r5⟩ := ih (t / (Region.ready .any ops listed).length) (listed.setIfInBounds x.i true) (T.erase x.i) p' C1 w1 (a.put x.o.dst xv) (putE x.o.dst v E) (by simpa using hs)
    (by
     have := List.length_erase_of_mem (hTm x.i hlt hnd)
     omega)
    (fun j hj hjd => by
     rw [hset] at hjd
     have h1 : ¬ Done listed j := fun h => hjd (.inl h)
     have h2 : j ≠ x.i := fun h => hjd (.inr h)
     exact (List.mem_erase_of_ne h2).2 (hTm j hj h1))
    hE1
    (fun y hy hd j hj => by
     rw [hset] at hd ⊢
     rcases hd with hd | hd
     ·exact .inl (hD y hy hd j hj)
     ·rw [F.ok.inj y hy x hx hd] at hj
      exact .inl (hmask j hj))
    q2 hER1 (fun q c hq => by rw [hset]; exact hch' q c hq) hp' q1 (by rw [hseq]; exact hPe')
   refine ⟨C2, w2, a2, r1, r2, r3, ?_, Steps.trans q6 r5⟩
   rw [r4]
   cases x.o.dst <;> rfl
theorem draw_sound (hm : P.follows .mixedOrders = true) (hk : SoundCall P k) {w0 : World} {C : CM} {H H' : Heap} {w : World} {E E' : Tr AV} {a : Act} {id : Nat} (hR : Rel w0 C H w) (hE : ER n C E a.tmps)
  (h : (compDraw P n ops).run k E H = .ok E' H') (b : Frame) (kk : List Item) (cs : List Frame) :
  ∃ C' w' a', C.le C' ∧ Rel w0 C' H' w' ∧ ER n C' E' a'.tmps ∧ a'.defers = a.defers ∧
   Steps P (lone (b.atR a (.code (.region id ops true) :: kk)) cs w) (lone (b.atR a' kk) cs w') := by
 unfold compDraw at h
 dsimp only at h
 generalize hL : dops P ops ops.toList [] 0 = L at h
 have hok : LOk P ops L := hL ▸ dops_ok P ops
 generalize hO : ordOf L (filterB isCh L) = ord at h
 have hord : ∀ x ∈ ord, x ∈ L := fun x hx => ordOf_sub x (by rw [hO]; exact hx)
 split at h
 ·rename_i hd
  unfold drawOk at hd
  split at hd
  ·cases hd
  ·rename_i s hto
   split at hd
   ·cases hd
   ·rename_i hs
    split at hd
    ·cases hd
    ·rename_i hds
     have hse : s = 2 ^ ops.size - 1 := Nat.eq_of_beq_eq_true (by simpa using hs)
     have F : Fit P ops L := ⟨hok, (dstsOk_spec (by simpa using hds)).2, fun x hx y hy => allB_mem (allB_mem hd x hx) y hy⟩
     have hn := hE.2.1
     have h0 : AgreeS L E E' (bit 0) E := fun t ht => by
      unfold EnvOf
      rw [if_neg]
      rintro ⟨y, _, hy, _⟩
      simp [bit] at hy
     obtain ⟨r0, _, Hb, Hc, ph, r1, r2, ru, r3, r4, r5, ra, ri, _⟩ := canon (E0 := E) F hn ord [] 0 0 s E H H' h hto hord (fun x hx => by cases hx) h0 (fun y _ hy => by simp [bit] at hy)
     have hall : ∀ i, i < ops.size → bit s i := fun i hi => by
      unfold bit
      rw [hse, Nat.testBit_two_pow_sub_one]
      simpa using hi
     have hnot : ∀ i, ¬ Done (Array.replicate ops.size false) i := fun i hi => by
      unfold Done at hi
      rw [Array.getD_eq_getD_getElem?, Array.getElem?_replicate] at hi
      split at hi <;> cases hi
     have hu0 := ru 0 (Nat.zero_le _)
     rw [r1] at hu0
     have hR1 : Rel w0 (C.lift (Hc 0).next) (Hc 0) w.drew := hR.drew.ups hu0
     have hle0 : C.le (C.lift (Hc 0).next) := CM.le_lift (by rw [hR.nx]; exact hu0.next)
     have hlow0 : ∀ y ∈ ord, y.c = .al → ¬ Skip P n ops k L E E' y → ph y.i = 0 → H.next ≤ aid E' y ∧ aid E' y < (Hc 0).next := fun y hy hyc hys hyp => by
      rcases ra y hy hyc with h | ⟨_, _, u2, u3, _⟩
      ·exact absurd h hys
      ·rw [hyp] at u2 u3; rw [r1] at u2; exact ⟨u2, u3⟩
     have hPe0 : Pends P n ops k L E E' ord ph C (C.lift (Hc 0).next) (Hc 0) (Done (Array.replicate ops.size false)) 0 := by
      refine ⟨fun y hy hyc hys hyp => ?_, fun y hy z hz hyc hzc hys hzs hyp hzp hid => ri y hy z hz hyc hzc hys hzs (by omega) hid, fun y hy hyc hys hyp _ v => ?_⟩
      ·obtain ⟨k1, k2⟩ := hlow0 y hy hyc hys (by omega)
       rw [← hR.nx] at k1
       exact ⟨k1, k2⟩
      ·obtain ⟨k1, k2⟩ := hlow0 y hy hyc hys (by omega)
       show C.f (aid E' y) v = none
       cases e : C.f (aid E' y) v with
       | none => rfl
       | some L' => have := hR.fresh _ _ _ e; omega
     have hsched : Region.schedule (P.follows .mixedOrders) ops (w.tape w.drawn (.order b.fn id)) = Region.linearise.go .any ops ops.size (w.tape w.drawn (.order b.fn id)) (Array.replicate ops.size false) [] := by
      simp only [Region.schedule, hm, Bool.true_or, if_true]
      rfl
     obtain ⟨C', w', a', q1, q2, q3, q4, q5⟩ := sched hk F hn hto hord hall r0 ru r3 r4 r5 ra ri b kk cs ops.size (w.tape w.drawn (.order b.fn id)) (Array.replicate ops.size false) (List.range ops.size) 0 (C.lift (Hc 0).next) w.drew a E
      (by simp) (by simp) (fun i hi _ => by simpa using hi) (fun t ht => by
       unfold EnvOf
       rw [if_neg]
       rintro ⟨y, _, hy, _⟩
       exact hnot _ hy) (fun y _ hy => absurd hy (hnot _)) hR1 (hE.mono hle0) (fun q c _ => ⟨fun h => absurd h (hnot _), fun h => absurd h (Nat.not_lt_zero q)⟩) (Nat.zero_le _) hle0 hPe0
     refine ⟨C', w', a', q1, by rw [← r2]; exact q2, q3, q4, .head stepR_region_draw ?_⟩
     rw [hsched]
     exact Steps.trans q5 (.one stepR_region_end)
 ·cases h
theorem region_sound (hk : SoundCall P k) {w0 : World} {C : CM} {H H' : Heap} {w : World} {E E' : Tr AV} {a : Act} {id : Nat} (hR : Rel w0 C H w) (hE : ER n C E a.tmps)
  (h : (compOps P n ops ops.toList).run k E H = .ok E' H') (b : Frame) (kk : List Item) (cs : List Frame) :
  ∃ C' w' a', C.le C' ∧ Rel w0 C' H' w' ∧ ER n C' E' a'.tmps ∧ a'.defers = a.defers ∧
   Steps P (lone (b.atR a (.code (.region id ops false) :: kk)) cs w) (lone (b.atR a' kk) cs w') := by
 obtain ⟨C', w', a', q1, q2, q3, q4, q5⟩ := ops_sound hk b kk cs ops.toList 0 rfl hR hE h
 refine ⟨C', w', a', q1, q2, q3, q4, .head stepR_region ?_⟩
 rw [List.range_eq_range']
 exact Steps.trans q5 (.one stepR_region_end)
end sched
end Go.Sv
namespace Go.Sv
open Go.RowKit (Below)
inductive DR (C : CM) : List Nat → List Deferred → Prop where
 | nil : DR C [] []
 | cons {d : Nat} {L : Loc} {l : List Nat} {r : List Deferred} (h : C d 0 = some L) (hs : DR C l r) : DR C (d :: l) ({ target := .collected L.b, args := #[] } :: r)
theorem DR.mono {C C' : CM} (h : C.le C') : ∀ {l : List Nat} {r : List Deferred}, DR C l r → DR C' l r
 | _, _, .nil => .nil
 | _, _, .cons e es => .cons (h.keep _ _ _ e) (DR.mono h es)
def RO (C : CM) (ro r : Option Nat) : Prop := match ro, r with
 | none, none => True
 | some l, some lb => ∃ L, C l 0 = some L ∧ L.b = lb
 | _, _ => False
theorem RO.mono {C C' : CM} (h : C.le C') {ro r : Option Nat} (k : RO C ro r) : RO C' ro r := by
 cases ro <;> cases r <;> simp only [RO] at k ⊢
 obtain ⟨L, h1, h2⟩ := k
 exact ⟨L, h.keep _ _ _ h1, h2⟩
theorem Rel.putBlock {w0 : World} {C : CM} {H : Heap} {w : World} (h : Rel w0 C H w) {o : Nat} {L : Loc} (hL : C o 0 = some L) {ob : AObj} {x : Obj} (hB : w0.heap.size ≤ L.b) (hone : ∀ c len ver ro, ob ≠ .cells c len ver ro)
  (hob : (w.putObj L.b x).heap[L.b]? = some x → ObjR w0.heap.size C (w.putObj L.b x) o ob) : Rel w0 C (H.put o ob) (w.putObj L.b x) := by
 have hlt := h.lt _ _ _ hL
 refine h.put (h.fresh _ _ _ hL) ob (h.low.trans ⟨rfl, rfl, rfl, by simp, fun k hk => World.putObj_heap_other (by omega)⟩) (by simp) (fun o' v L' hne hL' => World.putObj_heap_other (fun e => hne ?_)) (hob (World.putObj_heap_same hlt)) (fun c len ver ro e => absurd e (hone c len ver ro))
 exact (h.excl _ _ _ _ _ _ hL hL' e.symm hB).symm
theorem run_enterLoop_inner {P : Program} {w : World} {o : Nat} {r : Loop} (h : w.heap[o]? = some (.loop r)) (fn : FuncId) (tmps : Array Value) (ps : Array Tmp) (assign body : Code) :
  (Instr.enterLoop fn tmps ps assign body (some o)).run P w =
   .ok (w.heap.size, []) (w.alloc (.loop { state := .ready, pending := none, fn, tmps, params := ps, assign, body, defers := r.defers })) := by
 unfold Instr.enterLoop
 simp only [Sem.run_bind, run_getLoop h, run_newObj_alloc, Result.andThen, Sem.run_pure]
theorem enterLoop_ok {P : Program} {f n : Nat} {ps : Array Tmp} {as bd : Code} {ro : Option Nat} {E : Tr AV} {D : List Nat} {H : Heap} {l : Nat} {D' : List Nat} {H' : Heap} (h : enterLoopA f n ps as bd ro E D H = some (l, D', H'))
  {w0 : World} {C : CM} {w : World} {tm : Array Value} {ds : List Deferred} {r : Option Nat} (hR : Rel w0 C H w) (hE : ER n C E tm) (hD : DR C D ds) (hro : RO C ro r) :
  ∃ C' w1 mark L, C.le C' ∧ Rel w0 C' H' w1 ∧ (Instr.enterLoop f tm ps as bd r).run P w = .ok (L.b, mark) w1 ∧ C' l 0 = some L ∧ DR C' D' (mark ++ ds) := by
 unfold enterLoopA at h
 ·split at h
  ·cases h
   cases r with
   | some r => exact hro.elim
   | none =>
    obtain ⟨h1, h2⟩ := hR.push (.defd true) (.deferred (some [])) 0 0 (fun L hL => by
     rw [CM.ext_same] at hL; cases hL
     exact ⟨hR.low.size, heap_alloc_new _ _⟩)
    have hs1 : (C.ext H.next 0 ⟨w.heap.size, 0, 0, 0⟩) H.next 0 = some ⟨w.heap.size, 0, 0, 0⟩ := CM.ext_same _ _ _ _
    generalize C.ext H.next 0 ⟨w.heap.size, 0, 0, 0⟩ = C1 at h1 h2 hs1
    obtain ⟨h3, h4⟩ := h1.push (ob := .loop .ready none f n E ps as bd H.next) (x := .loop { state := .ready, pending := none, fn := f, tmps := tm, params := ps, assign := as, body := bd, defers := w.heap.size }) 0 0 (fun L hL => by
     rw [CM.ext_same] at hL; cases hL
     refine ⟨h1.low.size, tm, ⟨w.heap.size, 0, 0, 0⟩, (CM.le_ext _ (h1.next_none 0) (.inr (Nat.le_of_eq h1.nx))).keep _ _ _ hs1, heap_alloc_new _ _, (hE.mono h2).mono (CM.le_ext _ (h1.next_none 0) (.inr (Nat.le_of_eq h1.nx)))⟩)
    refine ⟨_, _, [{ target := .collected w.heap.size, args := #[] }], ⟨w.heap.size + 1, 0, 0, 0⟩, CM.le_trans h2 h4, h3, ?_, ?_, ?_⟩
    ·exact run_enterLoop_outer f tm ps as bd
    ·have := CM.ext_same C1 (H.push (.defd true)).next 0 ⟨(w.alloc (.deferred (some []))).heap.size, 0, 0, 0⟩
     rw [World.size_alloc] at this ⊢
     exact this
    ·exact .cons (h4.keep _ _ _ hs1) (hD.mono (CM.le_trans h2 h4))
  ·rename_i lo
   split at h
   ·rename_i d hg
    cases h
    cases r with
    | none => exact hro.elim
    | some r =>
     obtain ⟨Lo, hLo, rfl⟩ := hro
     obtain ⟨hB, tm0, Ld, hd, hw, _⟩ := hR.obj _ _ (hR.fresh _ _ _ hLo) hg Lo hLo
     obtain ⟨h3, h4⟩ := hR.push (ob := .loop .ready none f n E ps as bd d) (x := .loop { state := .ready, pending := none, fn := f, tmps := tm, params := ps, assign := as, body := bd, defers := Ld.b }) 0 0 (fun L hL => by
      rw [CM.ext_same] at hL; cases hL
      exact ⟨hR.low.size, tm, Ld, (CM.le_ext _ (hR.next_none 0) (.inr (Nat.le_of_eq hR.nx))).keep _ _ _ hd, heap_alloc_new _ _, hE.mono (CM.le_ext _ (hR.next_none 0) (.inr (Nat.le_of_eq hR.nx)))⟩)
     refine ⟨_, _, [], ⟨w.heap.size, 0, 0, 0⟩, h4, h3, ?_, CM.ext_same _ _ _ _, hD.mono h4⟩
     exact run_enterLoop_inner hw f tm ps as bd
   ·cases h
theorem endLoop_ok {P : Program} {l : Nat} {H H' : Heap} {j : Option Code} (h : endLoopA l H = some (j, H')) {w0 : World} {C : CM} {w : World} (hR : Rel w0 C H w) {L : Loc} (hL : C l 0 = some L) :
  ∃ w', (Instr.endLoop L.b).run P w = .ok j w' ∧ Rel w0 C H' w' := by
 unfold endLoopA at h
 split at h
 ·rename_i st pend f n E ps a b d hg
  have key : st ≠ .busy → (some (pend, H.put l (.loop .exhausted pend f n E ps a b d)) = some (j, H')) → ∃ w', (Instr.endLoop L.b).run P w = .ok j w' ∧ Rel w0 C H' w' := fun hst e => by
   cases e
   obtain ⟨hB, tm, Ld, hd, hw, hE⟩ := hR.obj _ _ (hR.fresh _ _ _ hL) hg L hL
   refine ⟨_, run_endLoop hw hst, hR.putBlock hL hB (fun _ _ _ _ e => by cases e) (fun hnew L' hL' => ?_)⟩
   rw [hL] at hL'; cases hL'
   exact ⟨hB, tm, Ld, hd, hnew, hE⟩
  split at h
  ·cases h
  ·rename_i hne
   exact key (fun e => hne e) h
 ·cases h
theorem rangeCall_ok {P : Program} {C : CM} {w : World} {g : AV} {ρ : Operand → Value} {gop : Operand} (hρ : ∀ v, ρ (.const v) = v) (hg : VR C g (ρ gop)) {l : Nat} {L : Loc} (hL : C l 0 = some L) {f : Nat} {args : List AV}
  (h : callFn P g [.fn (.yield l) [] []] = .call (.fn f) args) :
  ∃ d vs, (resolve ρ (rangeCall gop L.b) 0).run P w = .ok d w ∧ (invoke d.target d.args).run P w = .ok (.enter f (List.toArray vs)) w ∧ VRs C args vs := by
 have hy : VRs C [AV.fn (.yield l) [] []] [Value.func (.yield L.b) #[] #[]] := .cons (.fn (.yield hL) .nil .nil) .nil
 generalize hgv : ρ gop = gv at hg
 have hres : ∀ fn first cap, gv = .func fn first cap → (resolve ρ (rangeCall gop L.b) 0).run P w = .ok { target := .fn fn cap, args := first ++ #[Value.func (.yield L.b) #[] #[]] } w := by
  intro fn first cap e
  subst e
  simp only [resolve, hgv, Deferred.ofValue, Sem.run_pure]
  simp [hρ]
 unfold callFn at h
 split at h
 ·rename_i f' first cap
  split at h
  ·rename_i hc
   cases h
   cases hg with
   | @fn _ g' _ _ l' r' hf hl hr =>
    cases hf with
    | same =>
     refine ⟨_, l'.toList ++ [Value.func (.yield L.b) #[] #[]] ++ r'.toList, hres _ _ _ rfl, ?_, (hl.append hy).append hr⟩
     have : (l' ++ #[Value.func (.yield L.b) #[] #[]] ++ r') = (l'.toList ++ [Value.func (.yield L.b) #[] #[]] ++ r'.toList).toArray := by simp
     rw [← this]
     exact run_callFunc hc _
  ·cases h
 ·cases h
 ·cases h
def Come (P : Program) (b : Frame) (m : Machine) (cs : List Frame) (kk : List Item) (a' : Act) (w' : World) : Ex → Prop
 | .normal => Steps P m (lone (b.atR a' kk) cs w')
 | .exit id => ∃ k1, exitTo id k1 = exitTo id kk ∧ Steps P m (lone (b.atR a' (.code (.exit id) :: k1)) cs w')
 | .ret => ∃ k1, Steps P m (lone (b.atR a' (.code .ret :: k1)) cs w')
theorem Come.head {P : Program} {b : Frame} {m m1 : Machine} {cs : List Frame} {kk : List Item} {a' : Act} {w' : World} {x : Ex} (h : Steps P m m1) (k : Come P b m1 cs kk a' w' x) : Come P b m cs kk a' w' x := by
 cases x with
 | normal => exact Steps.trans h k
 | exit id => obtain ⟨k1, e, s⟩ := k; exact ⟨k1, e, Steps.trans h s⟩
 | ret => obtain ⟨k1, s⟩ := k; exact ⟨k1, Steps.trans h s⟩
section scope
variable {P : Program} {b : Frame} {a : Act} {k : List Item} {cs : List Frame} {w : World} {c : Code}
theorem stepR_scope : step P (lone (b.atR a (.code (.scope c) :: k)) cs w) = .next (lone (b.atR a (.code c :: .inScope c :: k)) cs w) := step_lone_go (by simp [stepG, stepG.exec, Frame.atR])
theorem stepR_inScope : step P (lone (b.atR a (.inScope c :: k)) cs w) = .next (lone (b.atR a k) cs w) := step_lone_go (by simp [stepG, stepG.exec, Frame.atR])
end scope
structure Both (w0 : World) (n : Nat) (C : CM) (E : Tr AV) (D : List Nat) (H : Heap) (a : Act) (w : World) : Prop where
 rel : Rel w0 C H w
 env : ER n C E a.tmps
 defs : DR C D a.defers
def CodeOk (P : Program) (f n : Nat) (cf : CodeF) (c : Code) : Prop :=
 ∀ (k : CallT), SoundCall P k → ∀ (m : Nat) (ro : Option Nat) (w0 : World) (C : CM) (E : Tr AV) (D : List Nat) (H : Heap) (a : Act) (w : World) (b : Frame) (x : Ex) (E' : Tr AV) (D' : List Nat) (H' : Heap),
  Both w0 n C E D H a w → b.fn = f → RO C ro b.roundOf → cf.run k m ro E D H = .ok x E' D' H' → ∀ (kk : List Item) (cs : List Frame),
  ∃ C' w' a', C.le C' ∧ Both w0 n C' E' D' H' a' w' ∧ Come P b (lone (b.atR a (.code c :: kk)) cs w) cs kk a' w' x
theorem compCode_ok {P : Program} (hm : P.follows .mixedOrders = true) (f n : Nat) : ∀ (c : Code), CodeOk P f n (compCode P f n c) c
 | .skip => by
  intro k hk m ro w0 C E D H a w b x E' D' H' hB hf hro h kk cs
  cases h
  exact ⟨C, w, a, CM.le_refl C, hB, .one stepR_skip⟩
 | .label l => by
  intro k hk m ro w0 C E D H a w b x E' D' H' hB hf hro h kk cs
  cases h
  exact ⟨C, w, a, CM.le_refl C, hB, .one stepR_label⟩
 | .exit id => by
  intro k hk m ro w0 C E D H a w b x E' D' H' hB hf hro h kk cs
  cases h
  exact ⟨C, w, a, CM.le_refl C, hB, kk, rfl, .refl _ _⟩
 | .ret => by
  intro k hk m ro w0 C E D H a w b x E' D' H' hB hf hro h kk cs
  cases h
  exact ⟨C, w, a, CM.le_refl C, hB, kk, .refl _ _⟩
 | .region id ops draw => by
  intro k hk m ro w0 C E D H a w b x E' D' H' hB hf hro h kk cs
  simp only [compCode] at h
  cases draw with
  | true =>
   dsimp only at h
   split at h
   ·cases h
   ·rename_i E1 H1 hr
    cases h
    obtain ⟨C', w', a', q1, q2, q3, q4, q5⟩ := draw_sound hm hk (id := id) hB.rel hB.env hr b kk cs
    exact ⟨C', w', a', q1, ⟨q2, q3, by rw [q4]; exact hB.defs.mono q1⟩, q5⟩
  | false =>
   dsimp only at h
   split at h
   ·cases h
   ·rename_i E1 H1 hr
    cases h
    obtain ⟨C', w', a', q1, q2, q3, q4, q5⟩ := region_sound hk (id := id) hB.rel hB.env hr b kk cs
    exact ⟨C', w', a', q1, ⟨q2, q3, by rw [q4]; exact hB.defs.mono q1⟩, q5⟩
 | .seq c1 c2 => by
  intro k hk m ro w0 C E D H a w b x E' D' H' hB hf hro h kk cs
  simp only [compCode] at h
  cases h1 : (compCode P f n c1).run k m ro E D H with
  | no => rw [h1] at h; cases h
  | ok x1 E1 D1 H1 =>
   rw [h1] at h
   obtain ⟨C1, w1, a1, q1, q2, q3⟩ := compCode_ok hm f n c1 k hk m ro w0 C E D H a w b x1 E1 D1 H1 hB hf hro h1 (.code c2 :: kk) cs
   cases x1 with
   | normal =>
    dsimp only at h
    obtain ⟨C2, w2, a2, r1, r2, r3⟩ := compCode_ok hm f n c2 k hk m ro w0 C1 E1 D1 H1 a1 w1 b x E' D' H' q2 hf (hro.mono q1) h kk cs
    exact ⟨C2, w2, a2, CM.le_trans q1 r1, r2, r3.head (.head stepR_seq q3)⟩
   | exit id =>
    cases h
    obtain ⟨k1, e, s⟩ := q3
    exact ⟨C1, w1, a1, q1, q2, k1, e, .head stepR_seq s⟩
   | ret =>
    cases h
    obtain ⟨k1, s⟩ := q3
    exact ⟨C1, w1, a1, q1, q2, k1, .head stepR_seq s⟩
 | .cond c c1 c2 => by
  intro k hk m ro w0 C E D H a w b x E' D' H' hB hf hro h kk cs
  simp only [compCode] at h
  split at h
  ·rename_i t ht
   have hv := opd_spec hB.env c _ ht
   have hv' : a.eval c = .bool t := by
    generalize a.eval c = v at hv
    cases hv
    rfl
   split at h
   ·obtain ⟨C1, w1, a1, q1, q2, q3⟩ := compCode_ok hm f n c1 k hk m ro w0 C E D H a w b x E' D' H' hB hf hro h kk cs
    exact ⟨C1, w1, a1, q1, q2, q3.head (.one (by rw [stepR_cond hv']; rfl))⟩
   ·obtain ⟨C1, w1, a1, q1, q2, q3⟩ := compCode_ok hm f n c2 k hk m ro w0 C E D H a w b x E' D' H' hB hf hro h kk cs
    exact ⟨C1, w1, a1, q1, q2, q3.head (.one (by rw [stepR_cond hv']; rfl))⟩
  ·cases h
 | .block id c => by
  intro k hk m ro w0 C E D H a w b x E' D' H' hB hf hro h kk cs
  simp only [compCode] at h
  split at h
  ·cases h
  ·rename_i x1 E1 D1 H1 h1
   obtain ⟨C1, w1, a1, q1, q2, q3⟩ := compCode_ok hm f n c k hk m ro w0 C E D H a w b x1 E1 D1 H1 hB hf hro h1 (.inBlock id :: kk) cs
   cases x1 with
   | normal =>
    cases h
    exact ⟨C1, w1, a1, q1, q2, Steps.head stepR_block (Steps.trans q3 (.one stepR_inBlock))⟩
   | exit id' =>
    dsimp only at h
    obtain ⟨k1, e, s⟩ := q3
    split at h
    ·rename_i hid
     cases h
     have hid' : id' = id := Nat.eq_of_beq_eq_true hid
     subst hid'
     refine ⟨C1, w1, a1, q1, q2, Steps.head stepR_block (Steps.trans s (.one (stepR_exit ?_)))⟩
     rw [e]
     simp [exitTo]
    ·rename_i hid
     cases h
     refine ⟨C1, w1, a1, q1, q2, k1, ?_, .head stepR_block s⟩
     rw [e]
     have hne : ¬ id = id' := fun q => by subst q; rw [Nat.beq_refl] at hid; cases hid
     simp [exitTo, hne]
   | ret =>
    cases h
    obtain ⟨k1, s⟩ := q3
    exact ⟨C1, w1, a1, q1, q2, k1, .head stepR_block s⟩
 | .scope c => by
  intro k hk m ro w0 C E D H a w b x E' D' H' hB hf hro h kk cs
  simp only [compCode] at h
  obtain ⟨C1, w1, a1, q1, q2, q3⟩ := compCode_ok hm f n c k hk m ro w0 C E D H a w b x E' D' H' hB hf hro h (.inScope c :: kk) cs
  refine ⟨C1, w1, a1, q1, q2, ?_⟩
  cases x with
  | normal => exact Steps.head stepR_scope (Steps.trans q3 (.one stepR_inScope))
  | exit id =>
   obtain ⟨k1, e, s⟩ := q3
   exact ⟨k1, e, .head stepR_scope s⟩
  | ret =>
   obtain ⟨k1, s⟩ := q3
   exact ⟨k1, .head stepR_scope s⟩
 | .loop c => by
  intro k hk m ro w0 C E D H a w b x E' D' H' hB hf hro h kk cs
  simp only [compCode] at h
  have ih := compCode_ok hm f n c
  have key : ∀ (j : Nat) (C : CM) (E : Tr AV) (D : List Nat) (H : Heap) (a : Act) (w : World), Both w0 n C E D H a w → RO C ro b.roundOf → loopA ((compCode P f n c).run k m ro) j E D H = .ok x E' D' H' →
    ∃ C' w' a', C.le C' ∧ Both w0 n C' E' D' H' a' w' ∧ Come P b (lone (b.atR a (.code c :: .inLoop c :: kk)) cs w) cs kk a' w' x := by
   intro j
   induction j with
   | zero => intro C E D H a w _ _ h; cases h
   | succ j ihj =>
    intro C E D H a w hB hro h
    simp only [loopA] at h
    split at h
    ·cases h
    ·rename_i x1 E1 D1 H1 h1
     obtain ⟨C1, w1, a1, q1, q2, q3⟩ := ih k hk m ro w0 C E D H a w b x1 E1 D1 H1 hB hf hro h1 (.inLoop c :: kk) cs
     cases x1 with
     | normal =>
      dsimp only at h
      obtain ⟨C2, w2, a2, r1, r2, r3⟩ := ihj C1 E1 D1 H1 a1 w1 q2 (hro.mono q1) h
      exact ⟨C2, w2, a2, CM.le_trans q1 r1, r2, r3.head (Steps.trans q3 (.one stepR_inLoop))⟩
     | exit id =>
      cases h
      obtain ⟨k1, e, s⟩ := q3
      exact ⟨C1, w1, a1, q1, q2, k1, e, s⟩
     | ret =>
      cases h
      obtain ⟨k1, s⟩ := q3
      exact ⟨C1, w1, a1, q1, q2, k1, s⟩
  obtain ⟨C1, w1, a1, q1, q2, q3⟩ := key m C E D H a w hB hro h
  exact ⟨C1, w1, a1, q1, q2, q3.head (.one stepR_loop)⟩
 | .rangeFunc g ps as bd => by
  intro k hk m ro w0 C E D H a w b x E' D' H' hB hf hro h kk cs
  simp only [compCode] at h
  split at h
  ·cases h
  ·rename_i gv hg
   split at h
   ·cases h
   ·rename_i l D1 H1 he
    obtain ⟨C1, w1, mark, L, q1, q2, q3, q4, q5⟩ := enterLoop_ok (P := P) he hB.rel hB.env hB.defs hro
    split at h
    ·rename_i t args hcall
     split at h
     ·cases h
     ·rename_i v H2 hk2
      obtain ⟨d, vs, s1, s2, s3⟩ := rangeCall_ok (P := P) (w := w1) (ρ := a.eval) (gop := g) (fun _ => rfl) ((opd_spec hB.env g _ hg).mono q1) q4 hcall
      have hsteps := hk _ _ _ _ _ _ _ _ _ q2 s3 hk2 (b.atR { a with defers := mark ++ a.defers } (.inRangeFunc L.b :: kk) :: cs)
      obtain ⟨C2, w2, v', fr, t1, t2, t3, t4, t5, t6⟩ := hsteps
      rw [← hf] at q3
      have st0 := stepR_rangeFunc (P := P) (b := b) (a := a) (k := kk) (cs := cs) (w := w) q3 s1 s2
      have back := step_leave_returned (c := b.atR { a with defers := mark ++ a.defers } (.inRangeFunc L.b :: kk)) (cs := cs) t6
      rw [finish_atR_inRangeFunc] at back
      have hdef : DR C2 D1 ({ a with defers := mark ++ a.defers } : Act).defers := q5.mono t1
      have henv : ER n C2 E ({ a with defers := mark ++ a.defers } : Act).tmps := (hB.env.mono q1).mono t1
      split at h
      ·cases h
      ·rename_i H3 hend
       cases h
       obtain ⟨w3, u1, u2⟩ := endLoop_ok (P := P) hend t2 (t1.keep _ _ _ q4)
       refine ⟨C2, w3, { a with defers := mark ++ a.defers }, CM.le_trans q1 t1, ⟨u2, henv, hdef⟩, ?_⟩
       refine Steps.head st0 (Steps.trans t4 (.head back (.one ?_)))
       rw [stepR_endRangeFunc u1]
       rfl
      ·rename_i c H3 hend
       obtain ⟨w3, u1, u2⟩ := endLoop_ok (P := P) hend t2 (t1.keep _ _ _ q4)
       split at h
       ·cases h
       ·rename_i x1 hx
        cases h
        have go : Steps P (lone (b.atR a (.code (.rangeFunc g ps as bd) :: kk)) cs w) (lone (b.atR { a with defers := mark ++ a.defers } (.code c :: kk)) cs w3) :=
         .head st0 (Steps.trans t4 (.head back (.one (by rw [stepR_endRangeFunc u1]; rfl))))
        refine ⟨C2, w3, { a with defers := mark ++ a.defers }, CM.le_trans q1 t1, ⟨u2, henv, hdef⟩, ?_⟩
        unfold exOf at hx
        split at hx
        ·cases hx; exact ⟨kk, go⟩
        ·cases hx; exact ⟨kk, rfl, go⟩
        ·cases hx
    ·cases h
 | .goto _ => by
  intro k hk m ro w0 C E D H a w b x E' D' H' hB hf hro h kk cs
  cases h
 | .refuse _ => by
  intro k hk m ro w0 C E D H a w b x E' D' H' hB hf hro h kk cs
  cases h
end Go.Sv
namespace Go.Sv
open Go.RowKit (Below)
theorem resF_ok {P : Program} {r : ResultVar} {n : Nat} {w0 : World} {C : CM} {E : Tr AV} {H : Heap} {w : World} {a : Act} (hR : Rel w0 C H w) (hE : ER n C E a.tmps) {v : AV} (h : (resF P r).run E H = some v) :
  ∃ x, (match r with
   | .tmp t => pure (a.tmps.getD t undef)
   | .cell c t => do loadVar t (← asAddr (a.tmps.getD c undef)) : Sem Value).run P w = .ok x w ∧ VR C v x := by
 have htmp : ∀ t, a.eval (.tmp t) = a.tmps.getD t undef := fun t => by
  show a.tmps.getD t undef = _
  rfl
 cases r with
 | tmp t =>
  simp only [resF] at h
  have := opd_spec hE _ _ h
  rw [htmp] at this
  exact ⟨_, by simp [Sem.run_pure], this⟩
 | cell c t =>
  unfold resF at h
  dsimp only at h ⊢
  split at h
  ·rename_i n ha hs
   dsimp only at h
   split at h
   ·rename_i o ver i ho
    split at h
    ·rename_i l hl
     cases h
     have hv := opd_spec hE _ _ ho
     rw [htmp] at hv
     generalize a.tmps.getD c undef = px at hv
     cases hv with
     | ptr hL =>
      obtain ⟨vs, h1, h2, h3, h4, _⟩ := hR.read P hl hL
      exact ⟨.agg vs.toArray, by simp [asAddr, loadVar, run_isAgg ha, run_size hs, h1], .agg (by simpa using h2) h3⟩
    ·cases h
   ·cases h
  ·rename_i n ha hs
   dsimp only at h
   split at h
   ·rename_i o ver i ho
    split at h
    ·rename_i cv hl
     cases h
     have hv := opd_spec hE _ _ ho
     rw [htmp] at hv
     generalize a.tmps.getD c undef = px at hv
     cases hv with
     | ptr hL =>
      obtain ⟨vs, h1, h2, h3, h4, h5, h6⟩ := hR.read P hl hL
      have h6' := h6 0 (by omega)
      match vs, h2 with
      | [u], .cons hu .nil =>
       simp only [Nat.add_zero, List.getElem?_cons_zero] at h6'
       exact ⟨u, by simp [asAddr, loadVar, run_isAgg ha, h6'], hu⟩
    ·cases h
   ·cases h
  ·cases h
theorem ressF_ok {P : Program} {n : Nat} {w0 : World} {C : CM} {E : Tr AV} {H : Heap} {w : World} {a : Act} (hR : Rel w0 C H w) (hE : ER n C E a.tmps) : ∀ {l : List ResultVar} {vs : List AV}, (ressF P l).run E H = some vs →
  ∃ xs, (l.mapM fun
   | .tmp t => pure (a.tmps.getD t undef)
   | .cell c t => do loadVar t (← asAddr (a.tmps.getD c undef)) : Sem (List Value)).run P w = .ok xs w ∧ VRs C vs xs
 | [], vs, h => by
  cases h
  exact ⟨[], by simp [Sem.run_pure], .nil⟩
 | r :: l, vs, h => by
  simp only [ressF] at h
  split at h
  ·cases h
  ·rename_i v hv
   split at h
   ·cases h
   ·rename_i vs' hvs
    cases h
    obtain ⟨x, h1, h2⟩ := resF_ok hR hE hv
    obtain ⟨xs, h3, h4⟩ := ressF_ok hR hE hvs
    refine ⟨x :: xs, ?_, .cons h2 h4⟩
    rw [List.mapM_cons, Sem.run_bind]
    have h1' := h1
    cases r <;> (dsimp only at h1' ⊢; rw [h1']; simp only [Result.andThen_ok, Sem.run_bind, h3, Sem.run_pure])
theorem results_ok {P : Program} {fn : Func} {n : Nat} {w0 : World} {C : CM} {E : Tr AV} {H : Heap} {w : World} {a : Act} (hR : Rel w0 C H w) (hE : ER n C E a.tmps) {vs : List AV} (h : (ressF P fn.results.toList).run E H = some vs) :
  ∃ x, (results fn a.tmps).run P w = .ok x w ∧ VR C (match vs with
   | [v] => v
   | l => .tup l) x := by
 obtain ⟨xs, h1, h2⟩ := ressF_ok hR hE h
 have hm : (fn.results.mapM fun
   | .tmp t => pure (a.tmps.getD t undef)
   | .cell c t => do loadVar t (← asAddr (a.tmps.getD c undef)) : Sem (Array Value)).run P w = .ok xs.toArray w := by
  rw [Array.mapM_eq_mapM_toList]
  rw [map_eq_pure_bind, Sem.run_bind, h1]
  rfl
 refine ⟨if h : xs.toArray.size = 1 then xs.toArray[0] else .tuple xs.toArray, ?_, ?_⟩
 ·unfold results
  rw [Sem.run_bind]
  exact (congrArg (fun r => Result.andThen r _) hm).trans rfl
 ·cases h2 with
  | nil => exact .tup .nil
  | cons e es =>
   cases es with
   | nil => exact e
   | cons e' es' =>
    simp only [List.size_toArray, List.length_cons]
    rw [dif_neg (by omega)]
    exact .tup (.cons e (.cons e' es'))
theorem step_mark {P : Program} {fr : Frame} {cs : List Frame} {w : World} {blk : Nat} {ds : List Deferred} (hm : fr.mode = .returning) (hd : fr.defers = { target := .collected blk, args := #[] } :: ds) (hw : w.heap[blk]? = some (.deferred (some []))) :
  step P (lone fr cs w) = .next (lone { fr with defers := ds } cs (w.putObj blk (.deferred none))) :=
 step_lone_go (by simp [stepG, unwind, hm, hd, Sem.runT_eq, run_takeDeferred hw, GStep.bare_after])
theorem marks_ok {P : Program} {w0 : World} {C : CM} : ∀ {D : List Nat} {ds : List Deferred} {H H' : Heap} {w : World} {fr : Frame} (cs : List Frame), DR C D ds → takeDefs D H = some H' → Rel w0 C H w → fr.mode = .returning → fr.defers = ds →
  ∃ w', Rel w0 C H' w' ∧ Steps P (lone fr cs w) (lone { fr with defers := [] } cs w')
 | _, _, H, H', w, fr, cs, .nil, h, hR, hm, hd => by
  cases h
  refine ⟨w, hR, ?_⟩
  have : fr = { fr with defers := [] } := by cases fr; cases hd; rfl
  rw [← this]
  exact .refl _ _
 | _, _, H, H', w, fr, cs, .cons (d := d) (L := L) (r := r) hL hs, h, hR, hm, hd => by
  simp only [takeDefs] at h
  split at h
  ·rename_i hg
   obtain ⟨hB, hw⟩ := hR.obj _ _ (hR.fresh _ _ _ hL) hg L hL
   have hR' : Rel w0 C (H.put d (.defd false)) (w.putObj L.b (.deferred none)) := hR.putBlock hL hB (fun _ _ _ _ e => by cases e) (fun hnew L' hL' => by
    rw [hL] at hL'; cases hL'
    exact ⟨hB, hnew⟩)
   obtain ⟨w', h1, h2⟩ := marks_ok (fr := { fr with defers := r }) cs hs h hR' hm rfl
   exact ⟨w', h1, .head (step_mark hm hd hw) h2⟩
  ·cases h
theorem ER.start {C : CM} {args : List AV} {vs : List Value} (hv : VRs C args vs) {n : Nat} (hn : n ≤ lim) (hl : args.length ≤ n) : ER n C (ofListFrom args 0 .e) (vs.toArray ++ Array.replicate (n - vs.toArray.size) undef) := by
 have hlen := hv.length
 refine ⟨by simp; omega, hn, fun t ht => ?_⟩
 rw [get_ofList args 0 .e t, getP_e]
 rw [Array.getD_eq_getD_getElem?]
 by_cases h : t < args.length
 ·rw [if_pos ⟨Nat.zero_le _, by omega⟩]
  obtain ⟨a, v, q1, q2, q3⟩ := hv.get' h
  rw [Nat.sub_zero, q1]
  rw [Array.getElem?_append_left (by simp; omega)]
  simp only [List.getElem?_toArray, q2, Option.getD_some]
  exact q3
 ·rw [if_neg (by omega)]
  show _ = undef
  rw [Array.getElem?_append_right (by simp; omega), Array.getElem?_replicate]
  split <;> rfl
theorem setPs_ok {C : CM} : ∀ (ps : List Tmp) (args : List AV) (vs : List Value) {n : Nat} {E E' : Tr AV} {tm : Array Value}, setPs ps args n E = some E' → VRs C args vs → ER n C E tm →
  ps.length = vs.length ∧ ER n C E' ((ps.zip vs).foldl (fun tmps (t, a) => tmps.setIfInBounds t a) tm) := by
 intro ps
 induction ps with
 | nil =>
  intro args vs n E E' tm h hv hE
  cases hv with
  | nil => cases h; exact ⟨rfl, hE⟩
  | cons e es => cases h
 | cons p ps ih =>
  intro args vs n E E' tm h hv hE
  cases hv with
  | nil => cases h
  | cons e es =>
   simp only [setPs] at h
   split at h
   ·rename_i hp
    have hp' : p < n := Nat.le_of_ble_eq_true hp
    have hE1 := ER.put (a := { tmps := tm, defers := [] }) hE (d := some p) (fun t ht => by cases ht; exact hp') e
    obtain ⟨h1, h2⟩ := ih _ _ h es hE1
    exact ⟨by simp [h1], h2⟩
   ·cases h
theorem compFn_ok {P : Program} (hm : P.follows .mixedOrders = true) {k : CallT} (hk : SoundCall P k) {f m : Nat} {w0 : World} {C : CM} {H H' : Heap} {w : World} {args : List AV} {vs : List Value} {v : AV} (hR : Rel w0 C H w) (hv : VRs C args vs)
  (h : (compFn P f).run k m args H = .ok v H') : CallSteps P w0 C w (.fn f) vs v H' := by
 unfold compFn at h
 split at h
 ·cases h
 ·rename_i fn hf
  split at h
  ·cases h
  ·rename_i body hbd
   split at h
   ·rename_i hlim
    dsimp only at h
    split at h
    ·cases h
    ·rename_i hlen
     have hlen' : args.length ≤ fn.ntmps := Nat.le_of_ble_eq_true hlen
     split at h
     ·cases h
     ·rename_i x E D H1 hrun
      intro cs
      let b : Frame := { (default : Frame) with fn := f, kind := .normal, roundOf := none }
      have henter : Frame.enter P f vs.toArray .normal = b.atR { tmps := vs.toArray ++ Array.replicate (fn.ntmps - vs.toArray.size) undef, defers := [] } [.code body] := by
       simp [Frame.enter, Frame.atR, hf, hbd, b]
      obtain ⟨C1, w1, a1, q1, q2, q3⟩ := compCode_ok hm f fn.ntmps body k hk m none w0 C (ofListFrom args 0 .e) [] H { tmps := vs.toArray ++ Array.replicate (fn.ntmps - vs.toArray.size) undef, defers := [] } w b x E D H1
       ⟨hR, ER.start hv hlim hlen', .nil⟩ rfl trivial hrun [] cs
      rw [← henter] at q3
      have key : ∀ todo, Steps P (lone (Frame.enter P f vs.toArray .normal) cs w) (lone { b.atR a1 todo with mode := .returning } cs w1) →
        (match takeDefs D H1 with
         | none => RV.no
         | some H2 => match (ressF P fn.results.toList).run E H2 with
          | some [v] => .ok v H2
          | some l => .ok (.tup l) H2
          | none => .no) = .ok v H' →
        ∃ C' w' v' fr, C.le C' ∧ Rel w0 C' H' w' ∧ VR C' v v' ∧ Steps P (lone (Frame.enter P f vs.toArray .normal) cs w) (lone fr cs w') ∧ fr.fn = f ∧ fr.leaving P w' (.returned v') := by
       intro todo hs he
       split at he
       ·cases he
       ·rename_i H2 htd
        obtain ⟨w2, r1, r2⟩ := marks_ok (fr := { b.atR a1 todo with mode := .returning }) cs q2.defs htd q2.rel rfl rfl
        split at he
        ·rename_i v1 hres
         cases he
         obtain ⟨xv, s1, s2⟩ := results_ok (fn := fn) r1 q2.env hres
         exact ⟨C1, w2, xv, _, q1, r1, s2, Steps.trans hs r2, rfl, rfl, rfl, rfl, fn, hf, s1⟩
        ·rename_i l hne hres
         cases he
         obtain ⟨xv, s1, s2⟩ := results_ok (fn := fn) r1 q2.env hres
         refine ⟨C1, w2, xv, _, q1, r1, ?_, Steps.trans hs r2, rfl, rfl, rfl, rfl, fn, hf, s1⟩
         rcases l with _ | ⟨u, _ | ⟨u2, l⟩⟩
         ·exact s2
         ·exact absurd rfl (hne u)
         ·exact s2
        ·cases he
      cases x with
      | exit id => cases h
      | normal => exact key [] (Steps.trans q3 (.one (stepR_end rfl))) h
      | ret =>
       obtain ⟨k1, s⟩ := q3
       exact key (.code .ret :: k1) (Steps.trans s (.one (stepR_ret rfl))) h
   ·cases h
theorem endRound_ok {P : Program} {l : Nat} {x : Ex} {H H' : Heap} {v : AV} (h : endRoundA l x H = .ok v H') {w0 : World} {C : CM} {w : World} (hR : Rel w0 C H w) {L : Loc} (hL : C l 0 = some L) :
  ∃ w' xv, (Instr.endRound L.b (match x with
   | .normal => none
   | .ret => some .ret
   | .exit id => some (.exit id))).run P w = .ok xv w' ∧ Rel w0 C H' w' ∧ VR C v xv := by
 unfold endRoundA at h
 split at h
 ·rename_i st pend f n E ps a b d hg
  obtain ⟨hB, tm, Ld, hd, hw, hE⟩ := hR.obj _ _ (hR.fresh _ _ _ hL) hg L hL
  split at h
  ·cases h
   refine ⟨_, _, run_endRound none hw, hR.putBlock hL hB (fun _ _ _ _ e => by cases e) (fun hnew L' hL' => ?_), .bool true⟩
   rw [hL] at hL'; cases hL'
   exact ⟨hB, tm, Ld, hd, hnew, hE⟩
  ·cases h
   refine ⟨_, _, run_endRound (some .ret) hw, hR.putBlock hL hB (fun _ _ _ _ e => by cases e) (fun hnew L' hL' => ?_), .bool false⟩
   rw [hL] at hL'; cases hL'
   exact ⟨hB, tm, Ld, hd, hnew, hE⟩
  ·rename_i id
   cases h
   refine ⟨_, _, run_endRound (some (.exit id)) hw, hR.putBlock hL hB (fun _ _ _ _ e => by cases e) (fun hnew L' hL' => ?_), .bool false⟩
   rw [hL] at hL'; cases hL'
   exact ⟨hB, tm, Ld, hd, hnew, hE⟩
 ·cases h
theorem begin_ok {P : Program} {l : Nat} {H H' : Heap} (h : beginA l H = some H') {w0 : World} {C : CM} {w : World} (hR : Rel w0 C H w) {L : Loc} (hL : C l 0 = some L) :
  ∃ w', (Instr.beginRound L.b).run P w = .ok () w' ∧ Rel w0 C H' w' := by
 unfold beginA at h
 split at h
 ·rename_i pend f n E ps a b d hg
  cases h
  obtain ⟨hB, tm, Ld, hd, hw, hE⟩ := hR.obj _ _ (hR.fresh _ _ _ hL) hg L hL
  refine ⟨_, run_beginRound hw rfl, hR.putBlock hL hB (fun _ _ _ _ e => by cases e) (fun hnew L' hL' => ?_)⟩
  rw [hL] at hL'; cases hL'
  exact ⟨hB, tm, Ld, hd, hnew, hE⟩
 ·cases h
theorem callA_sound {P : Program} (hm : P.follows .mixedOrders = true) {O : CallT} (hO : SoundCall P O) : ∀ m, SoundCall P (callA P O m)
 | 0 => fun _ _ _ _ _ _ _ _ _ _ _ h => by cases h
 | m + 1 => by
  have ih := callA_sound hm hO m
  intro w0 C H w t args vs v H' hR hv h
  unfold callA at h
  cases t with
  | fn f =>
   dsimp only at h
   split at h
   ·rename_i v1 H1 ho
    cases h
    exact hO _ _ _ _ _ _ _ _ _ hR hv ho
   ·exact compFn_ok hm ih hR hv h
  | yield l =>
   dsimp only at h
   split at h
   ·rename_i f n E ps a b d hg
    split at h
    ·cases h
    ·rename_i E1 hE1
     split at h
     ·rename_i E2 H2 hra
      split at h
      ·cases h
      ·rename_i H2' hbe
       split at h
       ·cases h
       ·rename_i x E3 D H3 hrb
        split at h
        ·intro L hL c cs
         obtain ⟨hB, tm, Ld, hd, hw, hE⟩ := hR.obj _ _ (hR.fresh _ _ _ hL) hg L hL
         obtain ⟨hlen, hER⟩ := setPs_ok _ _ _ hE1 hv hE
         have hy := run_yield (P := P) (args := vs.toArray) hw (by simpa using hlen.symm)
         dsimp only at hy
         have hfold : ((ps.zip vs.toArray).foldl (fun tmps (t, a) => tmps.setIfInBounds t a) tm) = ((ps.toList.zip vs).foldl (fun tmps (t, a) => tmps.setIfInBounds t a) tm) := by
          rw [← Array.foldl_toList, Array.toList_zip]
         rw [hfold] at hy
         let bf : Frame := { (default : Frame) with fn := f, kind := .normal, roundOf := some L.b }
         have hro : RO C (some l) bf.roundOf := ⟨L, hL, rfl⟩
         obtain ⟨C1, w1, a1, q1, q2, q3⟩ := compCode_ok hm f n a (callA P O m) ih m (some l) w0 C E1 [] H { tmps := (ps.toList.zip vs).foldl (fun tmps (t, a) => tmps.setIfInBounds t a) tm, defers := [] } w bf .normal E2 [] H2
          ⟨hR, hER, .nil⟩ rfl hro hra [.beginRound, .code b] (c :: cs)
         obtain ⟨w2, r1, r2⟩ := begin_ok (P := P) hbe q2.rel (q1.keep _ _ _ hL)
         obtain ⟨C2, w3, a3, s1, s2, s3⟩ := compCode_ok hm f n b (callA P O m) ih m (some l) w0 C1 E2 [] H2' a1 w2 bf x E3 [] H3 ⟨r2, q2.env, q2.defs⟩ rfl (hro.mono q1) hrb [] (c :: cs)
         obtain ⟨w4, xv, t1, t2, t3⟩ := endRound_ok (P := P) h s2.rel (s1.keep _ _ _ (q1.keep _ _ _ hL))
         refine ⟨C2, w4, xv, f, _, a, b, CM.le_trans q1 s1, t2, t3, hy, ?_⟩
         have hround : Frame.round L.b f ((ps.toList.zip vs).foldl (fun tmps (t, a) => tmps.setIfInBounds t a) tm) a b .normal = bf.atR { tmps := (ps.toList.zip vs).foldl (fun tmps (t, a) => tmps.setIfInBounds t a) tm, defers := [] } [.code a, .beginRound, .code b] := by
          simp [Frame.round, Frame.atR, bf]
         rw [hround]
         refine Steps.trans q3 (.head (stepR_beginRound rfl r1) ?_)
         cases x with
         | normal => exact Steps.trans s3 (.one (stepR_round_end rfl rfl t1))
         | ret =>
          obtain ⟨k1, s⟩ := s3
          exact Steps.trans s (.one (stepR_round_ret rfl rfl t1))
         | exit id =>
          obtain ⟨k1, e, s⟩ := s3
          exact Steps.trans s (.one (stepR_round_exit rfl rfl e t1))
        ·cases h
     ·cases h
   ·cases h
theorem Rel.start (w : World) : Rel w ⟨fun _ _ => none, 0⟩ ⟨.e, 0⟩ w :=
 ⟨rfl, .refl _ _, fun _ _ _ h => (by cases h), fun _ _ _ h => (by cases h), fun _ _ _ _ _ _ h => (by cases h), fun _ _ h => absurd h (Nat.not_lt_zero _), fun _ _ _ _ _ h => absurd h (Nat.not_lt_zero _)⟩
end Go.Sv
namespace Go.Sv
open Go.RowKit Go.ChangeShapes Go.WideShapes Go.ChangeAt
variable {H : Type} {enc : TypeId × Value → H} {P : Program}
theorem post_below {f : Func} {s : ChangeSpec} {apart fresh handsOn again : Bool} {W W' : World} {args : Array Value} {v : Value} {ds gs : List (DataW H)} {before pa pv : List MemPlace}
  (hW : DataW.Whole enc P f.params.toList s.vars apart W args.toList ds gs before)
  (hres : ∀ (b : Nat) (sp : Nat → Bool) (hd : Bool), DataW.TrodAll enc P W' b sp hd f.resultTypes.toList (v.resultList f.resultTypes.size) (s.fn H (ds ++ gs)).results [])
  (hargs : ∀ sp : Nat → Bool, (∀ p ∈ before, sp p.block = true) → DataW.TrodAll enc P W' 0 sp true f.params.toList args.toList (s.fn H (ds ++ gs)).args pa)
  (hvars : ∀ sp : Nat → Bool, (∀ p ∈ before, sp p.block = true) → DataW.TrodVars enc P W' sp s.vars (s.fn H (ds ++ gs)).vars pv)
  (hps : before = pa ++ pv) (hb : Below W.heap.size W W')
  (hok : ∀ (j : Nat) (t : TypeId) (r : Value), f.resultTypes[j]? = some t → (v.resultList f.resultTypes.size)[j]? = some r → Value.okWide P W' .any 0 t r) :
  s.post enc P f apart fresh handsOn again W args v W' := by
 have hlt := hW.lt
 obtain ⟨_, _, _, _, _, hz, hn⟩ := id hW
 have hsp : ∀ p ∈ before, (fun b => decide (b < W.heap.size)) p.block = true := fun p hp => by simpa using hlt p hp
 refine ⟨ds, gs, before, [], pa, pv, hW, hres _ _ _, hargs _ hsp, hvars _ hsp, World.keptBut_mono (fun p hp => ⟨hp, .inr (List.mem_append.1 (hps ▸ hp))⟩) (hb.frame (· ∈ before)), fun _ => ?_⟩
 refine ⟨hok, _, _, ([] ++ pa) ++ pv, ⟨[] ++ pa, pv, trodAll_append (hargs _ (fun _ _ => rfl)) (hres _ _ _), hvars _ (fun _ _ => rfl), rfl, fun b off hp => ?_, fun ha => ?_⟩, fun p hp _ => by rw [hps]; simpa using hp⟩
 ·have hp' : MemPlace.cell b off ∈ before := by rw [hps]; simpa using hp
  rw [hb.frozen (p := ⟨b, off, none⟩) (hlt _ hp')]
  exact hz b off hp'
 ·have := hn ha
  rw [hps] at this
  simpa using this
end Go.Sv
namespace Go.Sv
def CallT.le (k k' : CallT) : Prop := ∀ t a H v H', k t a H = .ok v H' → k' t a H = .ok v H'
theorem compOper_mono {P : Program} {n : Nat} {ops : Array Oper} {o : Oper} {k k' : CallT} (hk : k.le k') {E E' : Tr AV} {H H' : Heap} (h : (compOper P n ops o).run k E H = .ok E' H') : (compOper P n ops o).run k' E H = .ok E' H' := by
 unfold compOper at h ⊢
 cases hp : putF n o.dst with
 | none => rw [hp] at h; cases h
 | some p =>
  rw [hp] at h
  dsimp only at h ⊢
  cases hg : (guardF ops o).run E with
  | false => rw [hg] at h; exact h
  | true =>
   rw [hg] at h
   dsimp only at h ⊢
   cases hr : (compOp P o.op).run E H with
   | no => rw [hr] at h; cases h
   | val v H2 => rw [hr] at h; exact h
   | call t args =>
    rw [hr] at h
    dsimp only at h ⊢
    cases hc : k t args H with
    | no => rw [hc] at h; cases h
    | ok v H2 => rw [hc] at h; rw [hk _ _ _ _ _ hc]; exact h
theorem OE_rec_ok' {r : OE} {f : Tr AV → Heap → OE} {E' : Tr AV} {H' : Heap} (h : (OE.rec .no f r : OE) = .ok E' H') : ∃ E1 H1, r = .ok E1 H1 ∧ f E1 H1 = .ok E' H' := by
 cases r with
 | no => cases h
 | ok E1 H1 => exact ⟨E1, H1, rfl, h⟩
theorem compOps_mono {P : Program} {n : Nat} {ops : Array Oper} {k k' : CallT} (hk : k.le k') : ∀ {l : List Oper} {E E' : Tr AV} {H H' : Heap}, (compOps P n ops l).run k E H = .ok E' H' → (compOps P n ops l).run k' E H = .ok E' H'
 | [], _, _, _, _, h => h
 | o :: l, E, E', H, H', h => by
  simp only [compOps] at h ⊢
  obtain ⟨E1, H1, h1, h2⟩ := OE_rec_ok' h
  rw [compOper_mono hk h1]
  exact compOps_mono hk h2
theorem drawGo_mono {P : Program} {n : Nat} {ops : Array Oper} {k k' : CallT} (hk : k.le k') : ∀ {l pend : List DOp} {E E' : Tr AV} {H H' : Heap}, (drawGo P n ops l pend).run k E H = .ok E' H' → (drawGo P n ops l pend).run k' E H = .ok E' H'
 | [], _, _, _, _, _, h => h
 | x :: l, pend, E, E', H, H', h => by
  simp only [drawGo] at h ⊢
  split at h
  ·rename_i hc
   obtain ⟨E1, H1, h1, h2⟩ := OE_rec_ok' h
   dsimp only
   rw [compOper_mono hk h1]
   exact drawGo_mono hk h2
  ·rename_i hc
   obtain ⟨E1, H1, h1, h2⟩ := OE_rec_ok' h
   dsimp only
   rw [compOper_mono hk h1]
   exact drawGo_mono hk h2
  ·rename_i hc
   obtain ⟨E1, H1, h1, h2⟩ := OE_rec_ok' h
   obtain ⟨h3, h4⟩ := Bool_rec_ok h2
   dsimp only
   rw [compOper_mono hk h1]
   dsimp only
   rw [h3]
   exact drawGo_mono hk h4
  ·rename_i hc
   obtain ⟨E1, H1, h1, h2⟩ := OE_rec_ok' h
   obtain ⟨h3, h4⟩ := Bool_rec_ok h2
   dsimp only
   rw [compOper_mono hk h1]
   dsimp only
   rw [h3]
   exact drawGo_mono hk h4
theorem compDraw_mono {P : Program} {n : Nat} {ops : Array Oper} {k k' : CallT} (hk : k.le k') {E E' : Tr AV} {H H' : Heap} (h : (compDraw P n ops).run k E H = .ok E' H') : (compDraw P n ops).run k' E H = .ok E' H' := by
 unfold compDraw at h ⊢
 dsimp only at h ⊢
 split at h
 ·exact drawGo_mono hk h
 ·cases h
theorem loopA_mono {f g : Tr AV → List Nat → Heap → Res} (hf : ∀ E D H x E' D' H', f E D H = .ok x E' D' H' → g E D H = .ok x E' D' H') : ∀ {m m' : Nat}, m ≤ m' → ∀ {E D H x E' D' H'}, loopA f m E D H = .ok x E' D' H' → loopA g m' E D H = .ok x E' D' H'
 | 0, _, _, _, _, _, _, _, _, _, h => by cases h
 | m + 1, 0, hm, _, _, _, _, _, _, _, _ => by omega
 | m + 1, m' + 1, hm, E, D, H, x, E', D', H', h => by
  simp only [loopA] at h ⊢
  split at h
  ·cases h
  ·rename_i y E1 D1 H1 h1
   rw [hf _ _ _ _ _ _ _ h1]
   dsimp only
   split at h
   ·exact loopA_mono hf (by omega) h
   ·exact h
theorem compCode_mono {P : Program} {f n : Nat} {k k' : CallT} (hk : k.le k') {m m' : Nat} (hm : m ≤ m') {ro : Option Nat} : ∀ (c : Code) {E : Tr AV} {D : List Nat} {H : Heap} {x : Ex} {E' : Tr AV} {D' : List Nat} {H' : Heap},
  (compCode P f n c).run k m ro E D H = .ok x E' D' H' → (compCode P f n c).run k' m' ro E D H = .ok x E' D' H' := by
 intro c
 induction c with
 | skip => intro E D H x E' D' H' h; exact h
 | region id ops draw =>
  intro E D H x E' D' H' h
  simp only [compCode] at h ⊢
  cases draw with
  | true =>
   dsimp only at h ⊢
   split at h
   ·cases h
   ·rename_i E1 H1 h1; rw [compDraw_mono hk h1]; exact h
  | false =>
   dsimp only at h ⊢
   split at h
   ·cases h
   ·rename_i E1 H1 h1; rw [compOps_mono hk h1]; exact h
 | seq a b iha ihb =>
  intro E D H x E' D' H' h
  simp only [compCode] at h ⊢
  cases hr : (compCode P f n a).run k m ro E D H with
  | no => rw [hr] at h; cases h
  | ok y E1 D1 H1 =>
   rw [hr] at h
   rw [iha hr]
   dsimp only at h ⊢
   cases y with
   | normal => exact ihb h
   | exit id => exact h
   | ret => exact h
 | cond c a b iha ihb =>
  intro E D H x E' D' H' h
  simp only [compCode] at h ⊢
  split at h
  ·split at h
   ·exact iha h
   ·exact ihb h
  ·cases h
 | block id c ih =>
  intro E D H x E' D' H' h
  simp only [compCode] at h ⊢
  split at h
  ·cases h
  ·rename_i y E1 D1 H1 h1; rw [ih h1]; exact h
 | loop c ih =>
  intro E D H x E' D' H' h
  simp only [compCode] at h ⊢
  exact loopA_mono (fun E D H x E' D' H' h => ih h) hm h
 | rangeFunc g ps a b _ _ =>
  intro E D H x E' D' H' h
  simp only [compCode] at h ⊢
  split at h
  ·cases h
  ·split at h
   ·cases h
   ·split at h
    ·split at h
     ·cases h
     ·rename_i v H2 h1
      rw [hk _ _ _ _ _ h1]
      exact h
    ·cases h
 | exit id => intro E D H x E' D' H' h; exact h
 | scope c ih => intro E D H x E' D' H' h; exact ih h
 | label l => intro E D H x E' D' H' h; exact h
 | ret => intro E D H x E' D' H' h; exact h
 | _ => intro E D H x E' D' H' h; cases h
theorem compFn_mono {P : Program} {f : Nat} {k k' : CallT} (hk : k.le k') {m m' : Nat} (hm : m ≤ m') {args : List AV} {H : Heap} {v : AV} {H' : Heap} (h : (compFn P f).run k m args H = .ok v H') : (compFn P f).run k' m' args H = .ok v H' := by
 unfold compFn at h ⊢
 cases hf : P.funcs[f]? with
 | none => rw [hf] at h; cases h
 | some fn =>
  rw [hf] at h
  dsimp only at h ⊢
  cases hb : fn.body with
  | none => rw [hb] at h; cases h
  | some body =>
   rw [hb] at h
   dsimp only at h ⊢
   by_cases hl : fn.ntmps ≤ lim
   ·rw [if_pos hl] at h ⊢
    dsimp only at h ⊢
    cases ha : Nat.ble args.length fn.ntmps with
    | false => rw [ha] at h; cases h
    | true =>
     rw [ha] at h
     dsimp only at h ⊢
     cases hr : (compCode P f fn.ntmps body).run k m none (ofListFrom args 0 .e) [] H with
     | no => rw [hr] at h; cases h
     | ok x E D H1 => rw [hr] at h; rw [compCode_mono hk hm _ hr]; exact h
   ·rw [if_neg hl] at h; cases h
theorem callA_mono {P : Program} {O : CallT} : ∀ {m m' : Nat}, m ≤ m' → CallT.le (callA P O m) (callA P O m')
 | 0, _, _ => fun t a H v H' h => by cases h
 | m + 1, 0, h => by omega
 | m + 1, m' + 1, hm => by
  have ih := callA_mono (P := P) (O := O) (show m ≤ m' by omega)
  intro t a H v H' h
  unfold callA at h ⊢
  cases t with
  | fn f =>
   dsimp only at h ⊢
   cases ho : O (.fn f) a H with
   | no => rw [ho] at h; exact compFn_mono ih (by omega) h
   | ok v1 H1 => rw [ho] at h; exact h
  | yield l =>
   dsimp only at h ⊢
   split at h
   ·rename_i f n E ps a' b d hg
    cases hE : setPs ps.toList a n E with
    | none => rw [hE] at h; cases h
    | some E1 =>
     rw [hE] at h
     dsimp only at h ⊢
     split at h
     ·rename_i E2 H2 h2
      rw [compCode_mono ih (by omega) _ h2]
      dsimp only
      cases hb : beginA l H2 with
      | none => rw [hb] at h; cases h
      | some H2' =>
       rw [hb] at h
       dsimp only at h ⊢
       cases h3 : (compCode P f n b).run (callA P O m) m (some l) E2 [] H2' with
       | no => rw [h3] at h; cases h
       | ok x E3 D H3 => rw [h3] at h; rw [compCode_mono ih (by omega) _ h3]; exact h
     ·cases h
   ·cases h
end Go.Sv
namespace Go.Sv
abbrev Env := Nat → Option AV
noncomputable def upd (ρ : Env) (d : Nat) (a : AV) : Env := fun t => match Nat.beq t d with
 | true => some a
 | false => ρ t
def EnvR (E : Tr AV) (ρ : Env) : Prop := ∀ t, t ≤ lim → getP (pathOf t) E = ρ t
inductive Ox where
 | t (i : Nat)
 | c (a : AV)
noncomputable def Ox.ev (ρ : Env) : Ox → AV
 | .t i => (ρ i).getD undefA
 | .c a => a
noncomputable def resO : Operand → Option Ox
 | .tmp t => if t ≤ lim then some (.t t) else none
 | .const v => (absV v).map .c
 | .func f => some (.c (.fn (.func f) [] []))
 | .global _ => none
theorem resO_ok {x : Operand} {r : Ox} (h : resO x = some r) {E : Tr AV} {ρ : Env} (hE : EnvR E ρ) : (opd x).run E = some (r.ev ρ) := by
 cases x with
 | tmp t =>
  simp only [resO] at h
  split at h
  ·rename_i ht
   cases h
   unfold opd
   dsimp only
   rw [Nat.ble_eq_true_of_le ht]
   dsimp only
   rw [hE t ht]
   simp only [Ox.ev]
   cases ρ t <;> rfl
  ·cases h
 | const v =>
  simp only [resO] at h
  cases hv : absV v with
  | none => rw [hv] at h; cases h
  | some a => rw [hv] at h; cases h; unfold opd; dsimp only; rw [hv]; rfl
 | global g => cases h
 | func f => cases h; rfl
noncomputable def resOs : List Operand → Option (List Ox)
 | [] => some []
 | x :: l => match resO x with
  | none => none
  | some r => match resOs l with
   | none => none
   | some rs => some (r :: rs)
theorem resOs_ok : ∀ {l : List Operand} {rs : List Ox}, resOs l = some rs → ∀ {E : Tr AV} {ρ : Env}, EnvR E ρ → (opds l).run E = some (rs.map (·.ev ρ))
 | [], rs, h, E, ρ, hE => by cases h; rfl
 | x :: l, rs, h, E, ρ, hE => by
  simp only [resOs] at h
  cases hx : resO x with
  | none => rw [hx] at h; cases h
  | some r =>
   rw [hx] at h
   dsimp only at h
   cases hl : resOs l with
   | none => rw [hl] at h; cases h
   | some r2 =>
    rw [hl] at h
    cases h
    unfold opds
    dsimp only
    rw [resO_ok hx hE, resOs_ok hl hE]
    rfl
noncomputable def resOpt : Option Operand → Option (Option Ox)
 | none => some none
 | some x => match resO x with
  | none => none
  | some r => some (some r)
noncomputable def optR (ρ : Env) : Option Ox → Option (Option Nat)
 | none => some none
 | some r => match r.ev ρ with
  | .int _ (.ofNat n) => some (some n)
  | _ => none
theorem resOpt_ok {x : Option Operand} {r : Option Ox} (h : resOpt x = some r) {E : Tr AV} {ρ : Env} (hE : EnvR E ρ) : (optF x).run E = optR ρ r := by
 cases x with
 | none => cases h; rfl
 | some x =>
  simp only [resOpt] at h
  cases hx : resO x with
  | none => rw [hx] at h; cases h
  | some q =>
   rw [hx] at h
   cases h
   unfold optF optR
   dsimp only
   rw [resO_ok hx hE]
   generalize q.ev ρ = a
   split
   ·rename_i n e; cases e; rfl
   ·rename_i e
    split
    ·rename_i k n; exact absurd rfl (e k n)
    ·rfl
inductive ROp where
 | move (x : Ox)
 | pick (c a b : Ox)
 | alloc (l : List AV)
 | box (x : Ox)
 | build (cs : List AV) (ps : List (Nat × Nat × Ox))
 | buildSl (size len : Nat) (cs : List AV) (ps : List (Nat × Nat × Ox))
 | load1 (x : Ox)
 | loadN (n : Nat) (x : Ox)
 | store (n : Nat) (x y : Ox)
 | nilChk (x : Ox)
 | bin (op : BinOp) (g : Bool) (t : TypeId) (x y : Ox)
 | un (op : UnOp) (x : Ox)
 | cvInt (k : IntKind) (x : Ox)
 | cvStr (x : Ox)
 | cvSame (x : Ox)
 | cvBytes (x : Ox)
 | mkIface (t : TypeId) (x : Ox)
 | mkFunc (f : Fn) (first cap : List Ox)
 | mkMap0
 | mkMap1 (x : Ox)
 | mkSl (size : Nat) (z : List AV) (l c : Ox)
 | slStr (x : Ox) (lo hi : Option Ox)
 | slSl (size : Nat) (x : Ox) (lo hi mx : Option Ox)
 | slArr (n size : Nat) (x : Ox) (lo hi mx : Option Ox)
 | fieldAddr (off : Nat) (x : Ox)
 | field (g : Bool) (n off : Nat) (x : Ox)
 | ixAddr (size : Nat) (x i : Ox)
 | ixAddrArr (len size : Nat) (x i : Ox)
 | ixStr (x i : Ox)
 | ixArr (g : Bool) (len size : Nat) (x i : Ox)
 | lookup (d : TypeDesc) (z : AV) (ok : Bool) (x i : Ox)
 | mapUpd (d : TypeDesc) (m k v : Ox)
 | range (x : Ox)
 | next (x : Ox)
 | assert (z : AV) (ok : Bool) (t : TypeId) (x : Ox)
 | extract (i : Nat) (x : Ox)
 | lenStr (x : Ox)
 | lenSl (x : Ox)
 | lenMap (x : Ox)
 | lenArr (n : Nat) (x : Ox)
 | cap (x : Ox)
 | maxi (mx : Bool) (l : List Ox)
 | appZ (size : Nat) (z : List AV) (s x : Ox)
 | appG (size : Nat) (s x : Ox)
 | copy (size : Nat) (d x : Ox)
 | clear (size : Nat) (z : List AV) (x : Ox)
 | delete (d : TypeDesc) (m k : Ox)
 | callV (f : Ox) (args : List Ox)
 | invoke (r : Ox) (name : String) (args : List Ox)
noncomputable def fillR (ρ : Env) (cs : List AV) : List (Nat × Nat × Ox) → Option (List AV)
 | [] => some cs
 | (off, size, x) :: ps => match (x.ev ρ).cells with
  | none => none
  | some l => match Nat.beq l.length size with
   | true => match Nat.ble (Nat.add off size) cs.length with
    | true => fillR ρ (layL cs off l) ps
    | false => none
   | false => none
noncomputable def evR (P : Program) (ρ : Env) (H : Heap) : ROp → OR
 | .move x => .val (x.ev ρ) H
 | .pick c a b => match c.ev ρ with
  | .bool true => .val (a.ev ρ) H
  | .bool false => .val (b.ev ρ) H
  | _ => .no
 | .alloc l => newVarA H l
 | .box x => match (x.ev ρ).cells with
  | some l => newVarA H l
  | none => .no
 | .build cs ps => match fillR ρ cs ps with
  | some l => .val (.agg l) H
  | none => .no
 | .buildSl size len cs ps => match fillR ρ cs ps with
  | some l => match newObj H l with
   | some (o, H') => .val (.sl o 0 0 len size (some len)) H'
   | none => .no
  | none => .no
 | .load1 x => match x.ev ρ with
  | .ptr o v i => match readAt H o v i 1 with
   | some [c] => .val c H
   | _ => .no
  | _ => .no
 | .loadN n x => match x.ev ρ with
  | .ptr o v i => match readAt H o v i n with
   | some l => .val (.agg l) H
   | none => .no
  | _ => .no
 | .store n x y => match x.ev ρ with
  | .ptr o v i => match (y.ev ρ).cells with
   | some l => match Nat.beq l.length n with
    | true => match writeAt H o v i l with
     | some H' => .val undefA H'
     | none => .no
    | false => .no
   | none => .no
  | _ => .no
 | .nilChk x => nilCheckA H (x.ev ρ)
 | .bin op g t x y => ret1 H (binA P op g t (x.ev ρ) (y.ev ρ))
 | .un op x => ret1 H (unA op (x.ev ρ))
 | .cvInt k x => match x.ev ρ with
  | .int _ n => .val (.int k (wrapA k n)) H
  | _ => .no
 | .cvStr x => match x.ev ρ with
  | .nilSl => .val (.str 0 0) H
  | .sl o v i len 1 _ => match readAt H o v i len with
   | some l => match convF.bytesA l with
    | some n => .val (.str len n) H
    | none => .no
   | none => .no
  | _ => .no
 | .cvSame x => match x.ev ρ with
  | .str l n => .val (.str l n) H
  | _ => .no
 | .cvBytes x => match x.ev ρ with
  | .str len n => match newObj H ((unpackL len n).map fun (b : Nat) => AV.int .u8 (Int.ofNat b)) with
   | some (o, H') => .val (.sl o 0 0 len 1 none) H'
   | none => .no
  | _ => .no
 | .mkIface t x => .val (.iface t (x.ev ρ)) H
 | .mkFunc f first cap => .val (.fn f (first.map (·.ev ρ)) (cap.map (·.ev ρ))) H
 | .mkMap0 => pushMap H
 | .mkMap1 x => match x.ev ρ with
  | .int _ _ => pushMap H
  | _ => .no
 | .mkSl size z l c => match l.ev ρ, c.ev ρ with
  | .int .i64 (.ofNat l), .int .i64 (.ofNat c) => match Nat.ble l c with
   | true => match Nat.ble c 1048576 with
    | true => match newObj H (repeatL z c) with
     | some (o, H') => .val (.sl o 0 0 l size (some c)) H'
     | none => .no
    | false => .no
   | false => .no
  | _, _ => .no
 | .slStr x lo hi => match x.ev ρ, optR ρ lo, optR ρ hi with
  | .str len n, some lo, some hi =>
   let l := lo.getD 0
   let h := hi.getD len
   match Nat.ble l h with
   | true => match Nat.ble h len with
    | true => .val (.str (Nat.sub h l) (Nat.mod (Nat.div n (Nat.pow 256 l)) (Nat.pow 256 (Nat.sub h l)))) H
    | false => .no
   | false => .no
  | _, _, _ => .no
 | .slSl size x lo hi mx => match x.ev ρ, optR ρ lo, optR ρ hi, optR ρ mx with
  | .sl o v i len esz room, some lo, some hi, some mx => ret1 H (sliceSl size lo hi mx o v i len esz room)
  | .nilSl, some lo, some hi, some none => match Nat.beq (Nat.add (lo.getD 0) (hi.getD 0)) 0 with
   | true => .val .nilSl H
   | false => .no
  | .emp, some lo, some hi, some none => match Nat.beq (Nat.add (lo.getD 0) (hi.getD 0)) 0 with
   | true => .val .emp H
   | false => .no
  | _, _, _, _ => .no
 | .slArr n size x lo hi mx => match x.ev ρ, optR ρ lo, optR ρ hi, optR ρ mx with
  | .ptr o v i, some lo, some hi, some mx => match H.get o with
   | some (.cells _ clen ver false) => match Nat.beq v ver with
    | true => match Nat.ble (Nat.add i (Nat.mul n size)) clen with
     | true => ret1 H (sliceSl size lo hi mx o v i n size (some n))
     | false => .no
    | false => .no
   | _ => .no
  | _, _, _, _ => .no
 | .fieldAddr off x => match x.ev ρ with
  | .ptr o v i => .val (.ptr o v (Nat.add i off)) H
  | _ => .no
 | .field g n off x => match x.ev ρ with
  | .agg l => ret1 H (partA g n l off)
  | _ => .no
 | .ixAddr size x i => match x.ev ρ, i.ev ρ with
  | .sl o v i len esz _, .int _ (.ofNat n) => match Nat.blt n len with
   | true => match Nat.beq esz size with
    | true => .val (.ptr o v (Nat.add i (Nat.mul n esz))) H
    | false => .no
   | false => .no
  | _, _ => .no
 | .ixAddrArr len size x i => match x.ev ρ, i.ev ρ with
  | .ptr o v i, .int _ (.ofNat n) => match Nat.blt n len with
   | true => .val (.ptr o v (Nat.add i (Nat.mul n size))) H
   | false => .no
  | _, _ => .no
 | .ixStr x i => match x.ev ρ, i.ev ρ with
  | .str len n, .int _ (.ofNat i) => match Nat.blt i len with
   | true => .val (.int .u8 (Int.ofNat (Nat.mod (Nat.div n (Nat.pow 256 i)) 256))) H
   | false => .no
  | _, _ => .no
 | .ixArr g len size x i => match x.ev ρ, i.ev ρ with
  | .agg l, .int _ (.ofNat n) => match Nat.blt n len with
   | true => ret1 H (partA g size l (Nat.mul n size))
   | false => .no
  | _, _ => .no
 | .lookup d z ok x i => match mapOf H (x.ev ρ) with
  | none => .no
  | some es => match findA d (i.ev ρ) es with
   | some (some v) => .val (if ok then .tup [v, .bool true] else v) H
   | some none => .val (if ok then .tup [z, .bool false] else z) H
   | none => .no
 | .mapUpd d m k v => match m.ev ρ with
  | .map o => match H.get o with
   | some (.map es clock) => match setMapA d (k.ev ρ) (v.ev ρ) clock es with
    | some (es', true) => .val undefA (H.put o (.map es' (Nat.add clock 1)))
    | some (es', false) => .val undefA (H.put o (.map es' clock))
    | none => .no
   | _ => .no
  | _ => .no
 | .range x => match x.ev ρ with
  | .str len n => .val (.ptr H.next 0 0) (H.push (.iter len n 0))
  | _ => .no
 | .next x => match x.ev ρ with
  | .ptr o 0 0 => match H.get o with
   | some (.iter len n pos) => match Nat.blt pos len with
    | true => match Nat.blt (Nat.mod (Nat.div n (Nat.pow 256 pos)) 256) 128 with
     | true => .val (.tup [.bool true, .int .i64 (Int.ofNat pos), .int .i32 (Int.ofNat (Nat.mod (Nat.div n (Nat.pow 256 pos)) 256))]) (H.put o (.iter len n (Nat.add pos 1)))
     | false => .no
    | false => .val (.tup [.bool false]) H
   | _ => .no
  | _ => .no
 | .assert z ok t x => match x.ev ρ with
  | .nilIf => if ok then .val (.tup [z, .bool false]) H else .no
  | .iface t' v => match Nat.beq t' t with
   | true => .val (if ok then .tup [v, .bool true] else v) H
   | false => if ok then .val (.tup [z, .bool false]) H else .no
  | _ => .no
 | .extract i x => match x.ev ρ with
  | .tup l => ret1 H l[i]?
  | _ => .no
 | .lenStr x => match x.ev ρ with
  | .str l _ => .val (.int .i64 (Int.ofNat l)) H
  | _ => .no
 | .lenSl x => match x.ev ρ with
  | .sl _ _ _ len _ _ => .val (.int .i64 (Int.ofNat len)) H
  | .nilSl => .val (.int .i64 0) H
  | .emp => .val (.int .i64 0) H
  | _ => .no
 | .lenMap x => match x.ev ρ with
  | .nilMap => .val (.int .i64 0) H
  | .map o => match H.get o with
   | some (.map es _) => .val (.int .i64 (Int.ofNat es.length)) H
   | _ => .no
  | _ => .no
 | .lenArr n _ => .val (.int .i64 (Int.ofNat n)) H
 | .cap x => match x.ev ρ with
  | .nilSl => .val (.int .i64 0) H
  | .sl _ _ _ _ _ (some r) => .val (.int .i64 (Int.ofNat r)) H
  | _ => .no
 | .maxi mx l => match (l.map (fun (x : Ox) => x.ev ρ) : List AV) with
  | .int k n :: l => ret1 H (foldMax mx (.int k n) l)
  | _ => .no
 | .appZ size z s x => match x.ev ρ with
  | .int .i64 (.ofNat n) => match Nat.ble n 1048576 with
   | true => appendA H size (s.ev ρ) n (repeatL z n)
   | false => .no
  | _ => .no
 | .appG size s x => match takeA H size (x.ev ρ) with
  | some (n, l) => match Nat.ble n 1048576 with
   | true => appendA H size (s.ev ρ) n l
   | false => .no
  | none => .no
 | .copy size d x => match takeA H size (x.ev ρ) with
  | some (n, l) => match d.ev ρ with
   | .nilSl => .val (.int .i64 0) H
   | .emp => .val (.int .i64 0) H
   | .sl o v i len esz _ => match Nat.beq esz size with
    | true => match writeAt H o v i (l.take (Nat.mul (minN n len) size)) with
     | some H' => .val (.int .i64 (Int.ofNat (minN n len))) H'
     | none => .no
    | false => .no
   | _ => .no
  | none => .no
 | .clear size z x => match x.ev ρ with
  | .nilSl => .val undefA H
  | .emp => .val undefA H
  | .sl o v i len esz _ => match Nat.beq esz size with
   | true => match writeAt H o v i (repeatL z len) with
    | some H' => .val undefA H'
    | none => .no
   | false => .no
  | _ => .no
 | .delete d m k => match m.ev ρ with
  | .map o => match H.get o with
   | some (.map es clock) => match delMapA d (k.ev ρ) es with
    | some es' => .val undefA (H.put o (.map es' clock))
    | none => .no
   | _ => .no
  | _ => .no
 | .callV f args => callVal P H (f.ev ρ) (args.map (·.ev ρ))
 | .invoke r name args => match r.ev ρ with
  | .iface t v => match methodA P t name with
   | some f => match callable P f with
    | true => .call (.fn f) (v :: args.map (·.ev ρ))
    | false => .no
   | none => .no
  | _ => .no
noncomputable def resParts (place : Nat → Option (Nat × Nat)) : List (Nat × Operand) → Option (List (Nat × Nat × Ox))
 | [] => some []
 | (i, x) :: l => match place i with
  | none => none
  | some (o, s) => match resO x with
   | none => none
   | some r => match resParts place l with
    | none => none
    | some q => some ((o, s, r) :: q)
noncomputable def res1 (x : Operand) (f : Ox → ROp) : Option ROp := match resO x with
 | none => none
 | some r => some (f r)
noncomputable def res2 (x y : Operand) (f : Ox → Ox → ROp) : Option ROp := match resO x with
 | none => none
 | some r => match resO y with
  | none => none
  | some q => some (f r q)
noncomputable def resSlice (size : Nat) (f : Nat → Ox → Option Ox → Option Ox → Option Ox → ROp) (x : Operand) (lo hi mx : Option Operand) : Option ROp :=
 match resO x, resOpt lo, resOpt hi, resOpt mx with
 | some r, some a, some b, some c => some (f size r a b c)
 | _, _, _, _ => none
noncomputable def resCall (P : Program) (c : Call) : Option ROp :=
 match c.callee with
 | .builtin b => match b with
  | .len => match c.argTypes.toList, c.args.toList with
   | [t], [x] => match P.underlying t with
    | some .string => res1 x .lenStr
    | some (.slice _) => res1 x .lenSl
    | some (.map _ _) => res1 x .lenMap
    | some (.array n _) => res1 x (.lenArr n)
    | _ => none
   | _, _ => none
  | .cap => match c.argTypes.toList, c.args.toList with
   | [t], [x] => match P.underlying t with
    | some (.slice _) => res1 x .cap
    | _ => none
   | _, _ => none
  | .max => match resOs c.args.toList with
   | some l => some (.maxi true l)
   | none => none
  | .min => match resOs c.args.toList with
   | some l => some (.maxi false l)
   | none => none
  | .append => match c.argTypes.toList, c.args.toList with
   | [st, xt], [s, x] => match P.underlying st, P.underlying xt with
    | some (.slice elem), some d => match P.info? elem, zeroT P elem with
     | some i, some z => if 0 < i.size ∧ i.bytes ≤ 65536 then match d with
      | .int _ => res2 s x (.appZ i.size z)
      | .slice _ => res2 s x (.appG i.size)
      | .string => res2 s x (.appG i.size)
      | _ => none
      else none
     | _, _ => none
    | _, _ => none
   | _, _ => none
  | .copy => match c.argTypes.toList, c.args.toList with
   | [st, _], [d, x] => match P.underlying st with
    | some (.slice elem) => match sizeT P elem with
     | none => none
     | some size => if 0 < size then res2 d x (.copy size) else none
    | _ => none
   | _, _ => none
  | .clear => match c.argTypes.toList, c.args.toList with
   | [st], [x] => match P.underlying st with
    | some (.slice elem) => match sizeT P elem, zeroT P elem with
     | some size, some z => if 0 < size then res1 x (.clear size z) else none
     | _, _ => none
    | _ => none
   | _, _ => none
  | .delete => match c.argTypes.toList, c.args.toList with
   | [mt, _], [m, k] => match P.underlying mt with
    | some (.map key _) => match keyT P key with
     | some d => res2 m k (.delete d)
     | none => none
    | _ => none
   | _, _ => none
  | _ => none
 | .value f => match resO f, resOs c.args.toList with
  | some g, some l => some (.callV g l)
  | _, _ => none
 | .invoke r name => match resO r, resOs c.args.toList with
  | some g, some l => some (.invoke g name l)
  | _, _ => none
noncomputable def resOp (P : Program) (o : Op) : Option ROp :=
 match o with
 | .move x | .assign x => res1 x .move
 | .pick c a b => match resO c, resO a, resO b with
  | some c, some a, some b => some (.pick c a b)
  | _, _, _ => none
 | .alloc t => match zeroT P t with
  | some l => some (.alloc l)
  | none => none
 | .box _ x => res1 x .box
 | .build t parts => match zeroT P t with
  | none => none
  | some cs => match P.underlying t with
   | some (.struct fields) => match fieldsAt P fields.toList with
    | none => none
    | some pl => match resParts (pl[·]?) parts.toList with
     | none => none
     | some ps => some (.build cs ps)
   | some (.array _ elem) => match sizeT P elem with
    | none => none
    | some size => match resParts (fun i => some (i * size, size)) parts.toList with
     | none => none
     | some ps => some (.build cs ps)
   | _ => none
 | .buildSlice t len parts => match P.underlying t with
  | some (.slice elem) => match sizeT P elem with
   | none => none
   | some size => match zeroT P elem with
    | none => none
    | some z => if len * size ≤ 2 ^ 20 ∧ 0 < size then
      match resParts (fun i => some (i * size, size)) parts.toList with
      | none => none
      | some ps => some (.buildSl size len (repeatL z len) ps)
     else none
  | _ => none
 | .load t a => match aggT P t, sizeT P t with
  | some true, some n => res1 a (.loadN n)
  | some false, some _ => res1 a .load1
  | _, _ => none
 | .store t a x => match sizeT P t with
  | some n => res2 a x (.store n)
  | none => none
 | .nilCheck x => res1 x .nilChk
 | .binOp op t x y _ => res2 x y (.bin op (isConstO x || isConstO y) t)
 | .unOp op _ x => res1 x (.un op)
 | .convert s d x => match P.underlying s, P.underlying d with
  | some _, some (.int k) => res1 x (.cvInt k)
  | some (.slice e), some .string => match P.underlying e with
   | some (.int .u8) => res1 x .cvStr
   | _ => none
  | some _, some .string => res1 x .cvSame
  | some _, some (.slice e) => match P.underlying e, sizeT P e with
   | some (.int .u8), some 1 => res1 x .cvBytes
   | _, _ => none
  | _, _ => none
 | .makeInterface t x => match P.underlying t with
  | some (.interface _) => none
  | some _ => res1 x (.mkIface t)
  | none => none
 | .makeFunc f first cap => match f with
  | .yield _ => none
  | f => match resOs first.toList, resOs cap.toList with
   | some a, some b => some (.mkFunc f a b)
   | _, _ => none
 | .makeMap t r => match r with
  | none => some .mkMap0
  | some x => match P.underlying t with
   | some (.map _ _) => res1 x .mkMap1
   | _ => none
 | .makeSlice t l c => match P.underlying t with
  | some (.slice elem) => match P.info? elem with
   | none => none
   | some i => match zeroT P elem with
    | none => none
    | some z => if 0 < i.size ∧ i.bytes ≤ 2 ^ 16 then res2 l c (.mkSl i.size z) else none
  | _ => none
 | .slice t x lo hi mx => match P.underlying t with
  | some .string => match mx with
   | some _ => none
   | none => match resO x, resOpt lo, resOpt hi with
    | some r, some a, some b => some (.slStr r a b)
    | _, _, _ => none
  | some (.slice elem) => if mx.isSome && hi.isNone then none else match sizeT P elem with
   | none => none
   | some size => resSlice size .slSl x lo hi mx
  | some (.array n elem) => if mx.isSome && hi.isNone then none else match sizeT P elem with
   | none => none
   | some size => resSlice size (.slArr n) x lo hi mx
  | _ => none
 | .fieldAddr s x f => match P.underlying s with
  | some (.struct fields) => match fields[f]? with
   | none => none
   | some fd => match sizeT P fd.type with
    | none => none
    | some 0 => none
    | some _ => res1 x (.fieldAddr fd.offset)
  | _ => none
 | .field t x f => match P.underlying t with
  | some (.struct fields) => match fields[f]? with
   | none => none
   | some fd => match aggT P fd.type, sizeT P fd.type with
    | some g, some n => res1 x (.field g n fd.offset)
    | _, _ => none
  | _ => none
 | .indexAddr t x i => match P.underlying t with
  | some (.slice elem) => match sizeT P elem with
   | none => none
   | some size => res2 x i (.ixAddr size)
  | some (.array len elem) => match sizeT P elem with
   | none => none
   | some size => res2 x i (.ixAddrArr len size)
  | _ => none
 | .index t x i => match P.underlying t with
  | some .string => res2 x i .ixStr
  | some (.array len elem) => match aggT P elem, sizeT P elem with
   | some g, some size => res2 x i (.ixArr g len size)
   | _, _ => none
  | _ => none
 | .lookup t x i ok => match P.underlying t with
  | some (.map key elem) => match keyT P key, zeroV P elem with
   | some d, some z => res2 x i (.lookup d z ok)
   | _, _ => none
  | _ => none
 | .mapUpdate t m k x | .insert t m k x => match P.underlying t with
  | some (.map key _) => match keyT P key with
   | some d => match resO m, resO k, resO x with
    | some m, some k, some x => some (.mapUpd d m k x)
    | _, _, _ => none
   | none => none
  | _ => none
 | .range t x => match P.underlying t with
  | some .string => res1 x .range
  | _ => none
 | .next it s => if s then res1 it .next else none
 | .typeAssert x _ t ok => match P.underlying t with
  | some (.interface _) => none
  | some _ => match zeroV P t with
   | none => none
   | some z => res1 x (.assert z ok t)
  | none => none
 | .extract t i => res1 t (.extract i)
 | .call c => resCall P c
 | _ => none
end Go.Sv
namespace Go.Sv
section ok
variable {P : Program} {E : Tr AV} {ρ : Env}
theorem res1_ok {x : Operand} {f : Ox → ROp} {r : ROp} (h : res1 x f = some r) : ∃ q, resO x = some q ∧ r = f q := by
 unfold res1 at h
 cases hx : resO x with
 | none => rw [hx] at h; cases h
 | some q => rw [hx] at h; cases h; exact ⟨q, rfl, rfl⟩
theorem res2_ok {x y : Operand} {f : Ox → Ox → ROp} {r : ROp} (h : res2 x y f = some r) : ∃ q p, resO x = some q ∧ resO y = some p ∧ r = f q p := by
 unfold res2 at h
 cases hx : resO x with
 | none => rw [hx] at h; cases h
 | some q =>
  rw [hx] at h
  dsimp only at h
  cases hy : resO y with
  | none => rw [hy] at h; cases h
  | some p => rw [hy] at h; cases h; exact ⟨q, p, rfl, rfl, rfl⟩
theorem unary1_run (hE : EnvR E ρ) {x : Operand} {q : Ox} (hx : resO x = some q) (f : Heap → AV → OR) (H : Heap) : (unary1 x f).run E H = f H (q.ev ρ) := by
 show (Option.rec OR.no (fun a => f H a) ((opd x).run E) : OR) = _
 rw [resO_ok hx hE]
theorem binary2_run (hE : EnvR E ρ) {x y : Operand} {q p : Ox} (hx : resO x = some q) (hy : resO y = some p) (f : Heap → AV → AV → OR) (H : Heap) : (binary2 x y f).run E H = f H (q.ev ρ) (p.ev ρ) := by
 show (Option.rec OR.no (fun a => Option.rec OR.no (fun b => f H a b) ((opd y).run E)) ((opd x).run E) : OR) = _
 rw [resO_ok hx hE, resO_ok hy hE]
theorem fillA_run (hE : EnvR E ρ) {place : Nat → Option (Nat × Nat)} : ∀ {l : List (Nat × Operand)} {ps : List (Nat × Nat × Ox)} {cs : List AV}, resParts place l = some ps → ∃ qs, partsAt place l = some qs ∧ fillA cs qs E = fillR ρ cs ps
 | [], ps, cs, h => by cases h; exact ⟨[], rfl, rfl⟩
 | (i, x) :: l, ps, cs, h => by
  simp only [resParts] at h
  cases hp : place i with
  | none => rw [hp] at h; cases h
  | some os =>
   obtain ⟨o, s⟩ := os
   rw [hp] at h
   dsimp only at h
   cases hx : resO x with
   | none => rw [hx] at h; cases h
   | some r =>
    rw [hx] at h
    dsimp only at h
    cases hl : resParts place l with
    | none => rw [hl] at h; cases h
    | some q =>
     rw [hl] at h
     cases h
     obtain ⟨qs, h1, _⟩ := fillA_run hE (cs := cs) hl
     refine ⟨⟨o, s, opd x⟩ :: qs, by simp only [partsAt, hp, h1], ?_⟩
     simp only [fillA, fillR]
     rw [resO_ok hx hE]
     dsimp only
     cases (r.ev ρ).cells with
     | none => rfl
     | some c =>
      dsimp only
      cases Nat.beq c.length s with
      | false => rfl
      | true =>
       dsimp only
       cases Nat.ble (Nat.add o s) cs.length with
       | false => rfl
       | true =>
        dsimp only
        obtain ⟨qs', h1', h2'⟩ := fillA_run hE (cs := layL cs o c) hl
        rw [h1] at h1'
        cases h1'
        exact h2'
theorem resSlice_ok {size : Nat} {f : Nat → Ox → Option Ox → Option Ox → Option Ox → ROp} {x : Operand} {lo hi mx : Option Operand} {r : ROp} (h : resSlice size f x lo hi mx = some r) :
  ∃ q a b c, resO x = some q ∧ resOpt lo = some a ∧ resOpt hi = some b ∧ resOpt mx = some c ∧ r = f size q a b c := by
 unfold resSlice at h
 split at h
 ·rename_i q a b c h1 h2 h3 h4
  cases h
  exact ⟨q, a, b, c, h1, h2, h3, h4, rfl⟩
 ·cases h
theorem resCall_ok (hE : EnvR E ρ) {c : Call} {r : ROp} (h : resCall P c = some r) (H : Heap) : (callF P c).run E H = evR P ρ H r := by
 unfold resCall at h
 unfold callF
 split at h
 ·rename_i b hb
  rw [hb]
  dsimp only
  split at h
  ·split at h
   ·rename_i t x ht hx
    rw [ht, hx]
    dsimp only
    unfold lenF
    split at h <;> first
     | (cases h; done)
     | (rename_i hu
        obtain ⟨q, h1, rfl⟩ := res1_ok h
        rw [hu]
        dsimp only
        rw [unary1_run hE h1]
        rfl)
   ·cases h
  ·split at h
   ·rename_i t x ht hx
    rw [ht, hx]
    dsimp only
    unfold capF
    split at h
    ·rename_i hu
     obtain ⟨q, h1, rfl⟩ := res1_ok h
     rw [hu]
     dsimp only
     rw [unary1_run hE h1]
     rfl
    ·cases h
   ·cases h
  ·split at h
   ·rename_i l hl
    cases h
    simp only [maxF, evR]
    rw [resOs_ok hl hE]
    generalize (l.map fun (x : Ox) => x.ev ρ) = vs
    rcases vs with _ | ⟨v, vs⟩
    ·rfl
    ·cases v <;> rfl
   ·cases h
  ·split at h
   ·rename_i l hl
    cases h
    simp only [maxF, evR]
    rw [resOs_ok hl hE]
    generalize (l.map fun (x : Ox) => x.ev ρ) = vs
    rcases vs with _ | ⟨v, vs⟩
    ·rfl
    ·cases v <;> rfl
   ·cases h
  ·split at h
   ·rename_i st xt s x ht hx
    unfold appendF
    rw [ht, hx]
    dsimp only
    split at h
    ·rename_i elem d hu1 hu2
     rw [hu1, hu2]
     split at h
     ·rename_i i z hi hz
      split at h
      ·rename_i hc
       split at h
       ·rename_i k
        obtain ⟨q, p, h1, h2, rfl⟩ := res2_ok h
        dsimp only
        unfold appendZ
        rw [hi, hz]
        dsimp only
        rw [if_pos hc, binary2_run hE h1 h2]
        rfl
       ·obtain ⟨q, p, h1, h2, rfl⟩ := res2_ok h
        dsimp only
        unfold appendG
        rw [hi, hz]
        dsimp only
        rw [if_pos hc, binary2_run hE h1 h2]
        rfl
       ·obtain ⟨q, p, h1, h2, rfl⟩ := res2_ok h
        dsimp only
        unfold appendG
        rw [hi, hz]
        dsimp only
        rw [if_pos hc, binary2_run hE h1 h2]
        rfl
       ·cases h
      ·cases h
     ·cases h
    ·cases h
   ·cases h
  ·split at h
   ·rename_i st xt d x ht hx
    unfold copyF
    rw [ht, hx]
    dsimp only
    split at h
    ·rename_i elem hu
     rw [hu]
     dsimp only
     split at h
     ·cases h
     ·rename_i size hs
      split at h
      ·rename_i hpos
       obtain ⟨q, p, h1, h2, rfl⟩ := res2_ok h
       rw [hs]
       dsimp only
       rw [if_pos hpos, binary2_run hE h1 h2]
       rfl
      ·cases h
    ·cases h
   ·cases h
  ·split at h
   ·rename_i st x ht hx
    unfold clearF
    rw [ht, hx]
    dsimp only
    split at h
    ·rename_i elem hu
     rw [hu]
     dsimp only
     split at h
     ·rename_i size z hs hz
      split at h
      ·rename_i hpos
       obtain ⟨q, h1, rfl⟩ := res1_ok h
       rw [hs, hz]
       dsimp only
       rw [if_pos hpos, unary1_run hE h1]
       rfl
      ·cases h
     ·cases h
    ·cases h
   ·cases h
  ·split at h
   ·rename_i mt xt m k ht hx
    unfold deleteF
    rw [ht, hx]
    dsimp only
    split at h
    ·rename_i key e hu
     rw [hu]
     dsimp only
     split at h
     ·rename_i d hd
      obtain ⟨q, p, h1, h2, rfl⟩ := res2_ok h
      rw [hd]
      dsimp only
      rw [binary2_run hE h1 h2]
      rfl
     ·cases h
    ·cases h
   ·cases h
  ·cases h
 ·rename_i f hf
  rw [hf]
  dsimp only
  split at h
  ·rename_i g l hg hl
   cases h
   rw [resO_ok hg hE, resOs_ok hl hE]
   simp only [evR]
  ·cases h
 ·rename_i x name hx
  rw [hx]
  dsimp only
  split at h
  ·rename_i g l hg hl
   cases h
   rw [resO_ok hg hE, resOs_ok hl hE]
   simp only [evR]
   cases g.ev ρ with
   | iface t v =>
    dsimp only
    cases methodA P t name with
    | none => rfl
    | some f =>
     dsimp only
     cases callable P f <;> rfl
   | _ => rfl
  ·cases h
end ok
end Go.Sv
