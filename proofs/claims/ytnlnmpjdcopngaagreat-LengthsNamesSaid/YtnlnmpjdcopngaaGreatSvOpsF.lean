/- Each operation of the evaluator's against the model's: slices, structs' fields, indexes, conversions, functions, maps made. -/
import Derived.Test.YtnlnmpjdcopngaaGreatSvOpsE
namespace Go.Sv
open Go.RowKit (Below)

theorem repeatL_length (l : List AV) : ∀ n, (repeatL l n).length = n * l.length
  | 0 => by simp [repeatL]
  | n + 1 => by rw [repeatL, List.length_append, repeatL_length l n, Nat.succ_mul]; omega
theorem repeatL_one {l : List AV} (h : ∀ a ∈ l, a.one = true) : ∀ n, ∀ a ∈ repeatL l n, a.one = true
  | 0, a, ha => by simp [repeatL] at ha
  | n + 1, a, ha => by
    rw [repeatL, List.mem_append] at ha
    rcases ha with ha | ha
    · exact h a ha
    · exact repeatL_one h n a ha
/-- Cells over and over. -/
def repV (l : List Value) : Nat → List Value
  | 0 => []
  | n + 1 => l ++ repV l n
theorem repeatL_rel {C : CM} {l : List AV} {r : List Value} (h : VRs C l r) : ∀ n, VRs C (repeatL l n) (repV r n)
  | 0 => .nil
  | n + 1 => h.append (repeatL_rel h n)
theorem repV_length (l : List Value) : ∀ n, (repV l n).length = n * l.length
  | 0 => by simp [repV]
  | n + 1 => by rw [repV, List.length_append, repV_length l n, Nat.succ_mul]; omega
theorem repV_get (l : List Value) : ∀ (n i : Nat), i < n * l.length → (repV l n)[i]? = l[i % l.length]?
  | 0, i, h => by simp at h
  | n + 1, i, h => by
    rw [Nat.succ_mul] at h
    rw [repV]
    by_cases hi : i < l.length
    · rw [List.getElem?_append_left hi, Nat.mod_eq_of_lt hi]
    · have hl : 0 < l.length := by
        rcases Nat.eq_zero_or_pos l.length with h0 | h0
        · rw [h0] at h; omega
        · exact h0
      rw [List.getElem?_append_right (by omega), repV_get l n _ (by omega), Nat.mod_eq_sub_mod (by omega : l.length ≤ i)]
theorem zeros_eq (z : Array Value) (n : Nat) : ((Array.range (n * z.size)).map fun i => z[i % z.size]!).toList = repV z.toList n := by
  apply List.ext_getElem?
  intro i
  rw [Array.toList_map, List.getElem?_map]
  by_cases hi : i < n * z.size
  · rw [repV_get _ _ _ (by simpa using hi)]
    have hz : 0 < z.size := by
      rcases Nat.eq_zero_or_pos z.size with h0 | h0
      · rw [h0] at hi; omega
      · exact h0
    have hm : i % z.size < z.size := Nat.mod_lt _ hz
    simp [hi, hm, getElem!_pos]
  · have h1 : (repV z.toList n).length ≤ i := by rw [repV_length]; simp; omega
    rw [List.getElem?_eq_none h1, List.getElem?_eq_none (by simpa using hi)]
    rfl

theorem range0 (f : Nat → Value) : (Array.range 0).map f = #[] := by simp

theorem foldl_set_size (off : Nat) : ∀ (q : List (Value × Nat)) (a : Array Value), (q.foldl (fun cs (c, j) => cs.setIfInBounds (off + j) c) a).size = a.size
  | [], _ => rfl
  | x :: q, a => by rw [List.foldl_cons, foldl_set_size off q]; simp
theorem fill_size {pl : Nat → Option (Nat × Nat)} : ∀ {ps : List (Nat × Value)} {a b : Array Value}, Instr.fill pl a ps = some b → b.size = a.size
  | [], _, _, h => by cases h; rfl
  | (i, v) :: ps, a, b, h => by
    simp only [Instr.fill] at h
    split at h
    · cases h
    · split at h
      · cases h
      · rw [fill_size h, ← Array.foldl_toList, foldl_set_size]

theorem newSl_ok {P : Program} {w0 : World} {C : CM} {H H' : Heap} {w : World} (hR : Rel w0 C H w) (t : TypeId) {l : List AV} {o len esz : Nat} {cs : Array Value} (hn : newObj H l = some (o, H'))
    (hv : VRs C l cs.toList) (h1 : ∀ a ∈ l, a.one = true) {cap : Nat} (hc : cap * esz = l.length) (hle : len ≤ cap)
    {nx : Sem Next} (hnx : nx.run P w = .ok (.value (.slice (some ⟨w.heap.size, 0, none⟩) len cap)) (w.alloc (.cells cs t))) : ValOk P w0 C w nx (.sl o 0 0 len esz (some cap)) H' := by
  have hlen : l.length = cs.toList.length := hv.length
  have hlen' : l.length = cs.size := by simpa using hlen
  obtain ⟨C', hle', hR', hC'⟩ := hR.newRow hn t (0, 0) (vs := cs) (by omega) (by rw [hlen, List.take_length]; exact hv) h1 (by simp)
  have hmul : len * esz ≤ cap * esz := Nat.mul_le_mul_right _ hle
  refine ⟨C', _, _, hle', hR', ?_, .inl hnx⟩
  have := VR.sl (i := 0) (len := len) (esz := esz) (room := some cap) (cap := cap) hC' (by dsimp; omega) (by dsimp; omega) hle (fun r hr => by cases hr; exact ⟨rfl, by dsimp; omega⟩) (fun h => by cases h)
  simpa using this

theorem buildSlice_sound (P : Program) (t : TypeId) (len : Nat) (parts : Array (Nat × Operand)) :
    Sound P (buildSliceF P t len parts) (fun ρ => do pure (.value (← Instr.buildSlice t len (parts.map fun (i, x) => (i, ρ x))))) := by
  unfold buildSliceF
  split
  · rename_i elem hu
    split
    · exact stuck_sound P _
    · rename_i size hs
      split
      · exact stuck_sound P _
      · rename_i z hz
        split
        · rename_i hcond
          obtain ⟨hsz, hpos⟩ := hcond
          split
          · exact stuck_sound P _
          · rename_i ps hps
            intro w0 C H w E ρ hR hρ
            dsimp only
            split
            · rename_i l hl
              split
              · rename_i o H' hn
                obtain ⟨v, i, h1, h2, h3, h4⟩ := run_zeroT (w := w) hz
                obtain ⟨k1, k2⟩ := absL_spec (C := C) h2
                have hzs : v.cells.size = size := by
                  have e1 := k1.length
                  unfold sizeT at hs; rw [h3] at hs; simp at hs e1; omega
                have hzl : z.length = size := by have e1 := k1.length; simp at e1; omega
                have hrel : VRs C (repeatL z len) ((Array.range (len * size)).map fun i => v.cells[i % v.cells.size]!).toList := by
                  rw [← hzs, zeros_eq]; exact repeatL_rel k1 len
                obtain ⟨vs, q1, q2, q3⟩ := partsAt_spec hps hρ hl hrel (repeatL_one k2 len)
                have hll : l.length = len * size := by
                  have e1 := q2.length
                  have e3 := fill_size q1
                  simp at e3 e1; omega
                refine newSl_ok hR elem hn q2 q3 hll.symm (Nat.le_refl _) ?_
                have hf : Instr.fill (fun i => some (i * size, size)) ((Array.range (len * size)).map fun i => v.cells[i % v.cells.size]!) (parts.map fun (i, x) => (i, ρ x)).toList = some vs := by
                  rw [Array.toList_map]; exact q1
                have hbig : ¬ (len * size > 2 ^ 24) := by omega
                simp only [Instr.buildSlice, Sem.run_bind, run_und hu, run_size hs, Result.andThen_ok, Sem.run_ite, if_neg hbig]
                by_cases h0 : len * size = 0
                · rw [if_pos h0]
                  have hf0 : Instr.fill (fun i => some (i * size, size)) ((Array.range (len * size)).map fun i => (#[] : Array Value)[i % (#[] : Array Value).size]!) (parts.map fun (i, x) => (i, ρ x)).toList = some vs := by
                    rw [← hf, h0, range0, range0]
                  simp only [Sem.run_pure, Result.andThen_ok, hf0, newRow, Sem.run_bind, run_newObj]
                  rfl
                · rw [if_neg h0]
                  simp only [Sem.run_bind, h1, Sem.run_pure, Result.andThen_ok, hf, newRow, run_newObj]
                  rfl
              · exact trivial
            · exact trivial
        · exact stuck_sound P _
  · exact stuck_sound P _

theorem mkSlice_sound (P : Program) (t : TypeId) (l c : Operand) : Sound P (mkSliceF P t l c) (fun ρ => do pure (.value (← Instr.makeSlice t (ρ l) (ρ c)))) := by
  unfold mkSliceF
  split
  · rename_i elem hu
    split
    · exact stuck_sound P _
    · rename_i i hi
      split
      · exact stuck_sound P _
      · rename_i z hz
        split
        · rename_i hcond
          obtain ⟨hpos, hby⟩ := hcond
          refine binary2_sound fun w0 C H w ρ a b hR ha hb => ?_
          split
          · rename_i x y
            split
            · rename_i hxy
              split
              · rename_i hy
                split
                · rename_i o H' hn
                  have hxy' : x ≤ y := Nat.le_of_ble_eq_true hxy
                  have hy' : y ≤ 1048576 := Nat.le_of_ble_eq_true hy
                  obtain ⟨v, j, h1, h2, h3, h4⟩ := run_zeroT (w := w) hz
                  obtain ⟨k1, k2⟩ := absL_spec (C := C) h2
                  rw [hi] at h3; cases h3
                  have hzs : v.cells.size = i.size := by have e1 := k1.length; simp at e1; omega
                  generalize ρ l = pl at ha
                  generalize ρ c = pc at hb
                  cases ha; cases hb
                  refine newSl_ok hR elem hn (cs := (Array.range (y * i.size)).map fun k => v.cells[k % v.cells.size]!) (by rw [← hzs, zeros_eq]; exact repeatL_rel k1 y) (repeatL_one k2 y) (by rw [repeatL_length, h4]) hxy' ?_
                  have e1 : IntKind.i64.wrap (Int.ofNat x) = Int.ofNat x := by simp only [IntKind.wrap, IntKind.bits, IntKind.signed]; simp; omega
                  have e2 : IntKind.i64.wrap (Int.ofNat y) = Int.ofNat y := by simp only [IntKind.wrap, IntKind.bits, IntKind.signed]; simp; omega
                  have e3 : i.bytes * y ≤ 65536 * 1048576 := Nat.mul_le_mul hby hy'
                  have e4 : ¬ ((decide (Int.ofNat y < 0) || decide ((i.bytes : Int) * Int.ofNat y > 2 ^ 48) || decide (Int.ofNat x < 0) || decide (Int.ofNat x > Int.ofNat y)) = true) := by
                    have e5 : ((i.bytes : Int) * Int.ofNat y) = ((i.bytes * y : Nat) : Int) := by simp
                    rw [e5]
                    simp only [Bool.or_eq_true, decide_eq_true_eq, not_or]
                    refine ⟨⟨⟨by simp, by simp; omega⟩, by simp⟩, by simp; omega⟩
                  simp only [Instr.makeSlice, Sem.run_bind, run_und hu, run_info hi, asInt, asIntOf, Sem.run_pure, Result.andThen_ok, e1, e2, Sem.run_ite, if_neg e4, run_askRoom, run_size (show sizeT P elem = some i.size from by simp [sizeT, hi])]
                  have e6 : (Int.ofNat y).toNat = y := rfl
                  have e7 : (Int.ofNat x).toNat = x := rfl
                  rw [e6, e7]
                  by_cases h0 : y * i.size = 0
                  · rw [if_pos h0]
                    simp only [Sem.run_pure, Result.andThen_ok, newRow, Sem.run_bind, run_newObj]
                    have : ((Array.range (y * i.size)).map fun k => (#[] : Array Value)[k % (#[] : Array Value).size]!) = ((Array.range (y * i.size)).map fun k => v.cells[k % v.cells.size]!) := by rw [h0, range0, range0]
                    rw [this]; rfl
                  · rw [if_neg h0]
                    simp only [Sem.run_bind, h1, Sem.run_pure, Result.andThen_ok, newRow, run_newObj]
                    rfl
                · exact trivial
              · exact trivial
            · exact trivial
          · exact trivial
        · exact stuck_sound P _
  · exact stuck_sound P _

theorem mkIface_sound (P : Program) (t : TypeId) (x : Operand) : Sound P (mkIfaceF P t x) (fun ρ => do pure (.value (← Instr.makeInterface t (ρ x)))) := by
  unfold mkIfaceF
  split
  · exact stuck_sound P _
  · rename_i d hne hu
    refine unary1_sound fun w0 C H w ρ a hR ha => val_same hR (.iface ha) ?_
    simp only [Instr.makeInterface, Sem.run_bind, run_und hu, Result.andThen_ok]
    cases d <;> first | rfl | exact absurd hu (hne _)
  · exact stuck_sound P _

theorem mkFunc_sound (P : Program) (f : Fn) (first cap : Array Operand) (hf : ∀ l, f ≠ .yield l) : Sound P (mkFuncF f first cap) (fun ρ => do pure (.value (← Instr.makeFunc f (first.map ρ) (cap.map ρ)))) := by
  intro w0 C H w E ρ hR hρ
  unfold mkFuncF
  dsimp only
  split
  · rename_i l hl
    split
    · rename_i r hr
      refine val_same hR (.fn (.same f hf) (l' := first.map ρ) (r' := cap.map ρ) ?_ ?_) rfl
      · rw [Array.toList_map]; exact opds_spec hρ hl
      · rw [Array.toList_map]; exact opds_spec hρ hr
    · exact trivial
  · exact trivial

theorem pushMap_ok {P : Program} {w0 : World} {C : CM} {H : Heap} {w : World} (hR : Rel w0 C H w) {nx : Sem Next} (hnx : nx.run P w = .ok (.value (.map (some w.heap.size))) (w.alloc (.map #[] 0))) :
    OROk P w0 C w nx (pushMap H) := by
  unfold pushMap
  obtain ⟨h1, h2⟩ := hR.push (.map [] 0) (.map #[] 0) 0 0 (fun L hL => by
    rw [CM.ext_same] at hL; cases hL
    exact ⟨hR.low.size, #[], heap_alloc_new _ _, .nil⟩)
  exact ⟨_, _, _, h2, h1, .map (CM.ext_same _ _ _ _), .inl hnx⟩
theorem mkMap_sound (P : Program) (t : TypeId) (r : Option Operand) : Sound P (mkMapF P t r) (fun ρ => do pure (.value (← Instr.makeMap t (r.map ρ)))) := by
  unfold mkMapF
  split
  · intro w0 C H w E ρ hR hρ
    exact pushMap_ok hR (by simp [Instr.makeMap])
  · rename_i x
    split
    · rename_i k e hu
      refine unary1_sound fun w0 C H w ρ a hR ha => ?_
      split
      · generalize hx : ρ x = px at ha
        cases ha
        exact pushMap_ok hR (by simp [Instr.makeMap, run_und hu, hx, asInt, asIntOf])
      · exact trivial
    · exact stuck_sound P _

theorem fieldAddr_sound (P : Program) (t : TypeId) (x : Operand) (f : Nat) : Sound P (fieldAddrF P t x f) (fun ρ => do pure (.value (← Instr.fieldAt t (ρ x) f))) := by
  unfold fieldAddrF
  split
  · rename_i fields hu
    split
    · exact stuck_sound P _
    · rename_i fd hf
      split
      · exact stuck_sound P _
      · exact stuck_sound P _
      · rename_i n hn hs
        refine unary1_sound fun w0 C H w ρ a hR ha => ?_
        split
        · rename_i o v i
          generalize hx : ρ x = px at ha
          cases ha with
          | ptr hL =>
            refine val_same hR (.ptr (i := i + fd.offset) hL) ?_
            have hne : n ≠ 0 := hn
            simp [Instr.fieldAt, run_und hu, hf, Instr.sureAddr, fieldPlace, run_size hs, hne, add_addr]
        · exact trivial
  · exact stuck_sound P _

theorem field_sound (P : Program) (t : TypeId) (x : Operand) (f : Nat) : Sound P (fieldF P t x f) (fun ρ => do pure (.value (← Instr.field t (ρ x) f))) := by
  unfold fieldF
  split
  · rename_i fields hu
    split
    · exact stuck_sound P _
    · rename_i fd hf
      split
      · rename_i g n hg hn
        refine unary1_sound fun w0 C H w ρ a hR ha => ?_
        split
        · generalize hx : ρ x = px at ha
          cases ha with
          | agg ha ha1 =>
            refine ret1_ok hR fun r hr => ?_
            obtain ⟨z, h1, h2⟩ := partA_spec (w := w) hg hn hr ha ha1
            exact ⟨z, by simp [Instr.field, run_und hu, hf, asAgg, h1], h2⟩
        · exact trivial
      · exact stuck_sound P _
  · exact stuck_sound P _

end Go.Sv
