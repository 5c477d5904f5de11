/- Each operation of the evaluator's against the model's: append, copy, clear. -/
import Derived.Test.YtnlnmpjdcopngaaGreatSvOpsI
import Derived.Laws.Append
import Derived.Laws.AppendOwn
namespace Go.Sv
open Go.RowKit (Below)

/-- An object gets a new version: where it lies now, nothing else lies. -/
theorem Rel.bump {w0 : World} {C : CM} {H : Heap} {w w' : World} (h : Rel w0 C H w) {o ver len : Nat} {c : Tr AV} (ho : o < H.next) (hin : ∃ v L, C o v = some L) (hg : H.get o = some (.cells c len ver false)) (L' : Loc) (c' : Tr AV) (len' : Nat)
    (hlow : Below w0.heap.size w0 w') (hsz : w.heap.size ≤ w'.heap.size) (hlt : L'.b < w'.heap.size) (hex : ∀ o' v L, C o' v = some L → L.b = L'.b → o' = o)
    (hfr : ∀ o' v L, o' ≠ o → C o' v = some L → w'.heap[L.b]? = w.heap[L.b]?) (hob : ObjR w0.heap.size (C.ext o (ver + 1) L') w' o (.cells c' len' (ver + 1) false)) :
    Rel w0 (C.ext o (ver + 1) L') (H.put o (.cells c' len' (ver + 1) false)) w' ∧ C.le (C.ext o (ver + 1) L') := by
  have hnone : C o (ver + 1) = none := by
    cases e : C o (ver + 1) with
    | none => rfl
    | some L => have := h.top _ _ _ _ _ ho hg _ _ e; omega
  have hle : C.le (C.ext o (ver + 1) L') := CM.le_ext _ hnone (.inl hin)
  refine ⟨⟨by show max C.nx (o + 1) = H.next; rw [h.nx]; exact Nat.max_eq_left ho, hlow, ?_, ?_, ?_, ?_, ?_⟩, hle⟩
  · intro o' v L hL
    by_cases e : o' = o ∧ v = ver + 1
    · rw [e.1]; exact ho
    · rw [CM.ext_ne _ _ e] at hL; exact h.fresh _ _ _ hL
  · intro o' v L hL
    by_cases e : o' = o ∧ v = ver + 1
    · obtain ⟨rfl, rfl⟩ := e; rw [CM.ext_same] at hL; cases hL; exact hlt
    · rw [CM.ext_ne _ _ e] at hL; exact Nat.lt_of_lt_of_le (h.lt _ _ _ hL) hsz
  · intro o1 v1 L1 o2 v2 L2 h1 h2 hb hB
    by_cases e1 : o1 = o ∧ v1 = ver + 1 <;> by_cases e2 : o2 = o ∧ v2 = ver + 1
    · rw [e1.1, e2.1]
    · obtain ⟨rfl, rfl⟩ := e1
      rw [CM.ext_same] at h1; cases h1
      rw [CM.ext_ne _ _ e2] at h2
      exact (hex _ _ _ h2 hb.symm).symm
    · obtain ⟨rfl, rfl⟩ := e2
      rw [CM.ext_same] at h2; cases h2
      rw [CM.ext_ne _ _ e1] at h1
      exact hex _ _ _ h1 hb
    · rw [CM.ext_ne _ _ e1] at h1; rw [CM.ext_ne _ _ e2] at h2; exact h.excl _ _ _ _ _ _ h1 h2 hb hB
  · intro o' ob ho' hg'
    by_cases e : o' = o
    · subst e; rw [Heap.get_put_same] at hg'; cases hg'; exact hob
    · have ho'' : o' < H.next := ho'
      rw [Heap.get_put_ne H _ e] at hg'
      exact (h.obj _ _ ho' hg').frame hle (fun v L hL => by rwa [CM.ext_ne _ _ (fun q => e q.1)] at hL) (fun v L hL => hfr _ _ _ e hL)
  · intro o' c1 len1 ver1 ro1 ho' hg' v L hL
    by_cases e : o' = o
    · subst e
      rw [Heap.get_put_same] at hg'
      cases hg'
      by_cases e2 : v = ver + 1
      · omega
      · rw [CM.ext_ne _ _ (by omega)] at hL
        have := h.top _ _ _ _ _ ho hg _ _ hL; omega
    · have ho'' : o' < H.next := ho'
      rw [Heap.get_put_ne H _ e] at hg'
      rw [CM.ext_ne _ _ (fun q => e q.1)] at hL
      exact h.top _ _ _ _ _ ho' hg' _ _ hL

/-- What is appended, as the operation reads it. -/
structure AppX (P : Program) (w : World) (elem : TypeId) (size : Nat) (xt : TypeId) (x : Value) (n : Nat) (news : Array Value) : Prop where
  und : ∃ d, P.underlying xt = some d ∧ ((d = .string ∨ ∃ e, d = .slice e) ∧ (Builtin.lenOf x).run P w = .ok n w ∧ (∀ w', w'.heap = w.heap → (Builtin.firstCells size n x).run P w' = .ok news w')
    ∨ (∃ k, d = .int k) ∧ x = .int .i64 (Int.ofNat n) ∧ n ≤ 1048576 ∧ 0 < size ∧ ∃ zv, (∀ w', (zeroValue elem).run P w' = .ok zv w') ∧ (∃ i, P.info? elem = some i ∧ i.bytes ≤ 65536) ∧ news = Builtin.zeroCells zv.cells n ∧ zv.cells.size = size)

theorem zeroCells_nil (z : Array Value) : Builtin.zeroCells z 0 = #[] := by simp [Builtin.zeroCells]

theorem run_append_room' {P : Program} {w w' : World} {st xt elem ty : TypeId} {size n len cap : Nat} {base : Option Addr} {x : Value} {news : Array Value} (hu : P.underlying st = some (.slice elem)) (hs : sizeT P elem = some size)
    (hx : AppX P w elem size xt x n news) (hle : len + n ≤ cap)
    (hst : match base with
      | none => w' = w
      | some a => (storeCells (a.add (len * size)) news.toList).run P w = .ok () w') :
    (Builtin.append_ #[st, xt] ty #[.slice base len cap, x]).run P w = .ok (.slice base (len + n) cap) w' := by
  obtain ⟨d, hd, hcase⟩ := hx.und
  unfold Builtin.append_
  rcases hcase with ⟨hni, hlen, hf⟩ | ⟨⟨k, rfl⟩, rfl, hn, hpos, zv, hz, ⟨i, hi, hby⟩, rfl, hzs⟩
  · rcases hni with rfl | ⟨e, rfl⟩
    all_goals
      simp only [List.getElem?_toArray, List.getElem?_cons_zero, List.getElem?_cons_succ, Sem.run_bind, run_und hu, run_und hd, run_size hs, Result.andThen_ok, Sem.run_pure, Bool.false_eq_true, if_false, hlen, Sem.run_ite, if_pos hle, Bool.not_false, if_true, hf w rfl]
      cases base with
      | none => subst hst; rfl
      | some a => simp only [Sem.run_bind, hst, Result.andThen_ok, Sem.run_pure]
  · have e1 : IntKind.i64.wrap (Int.ofNat n) = Int.ofNat n := by simp only [IntKind.wrap, IntKind.bits, IntKind.signed]; simp; omega
    have e2 : ¬ (Int.ofNat n < 0) := by simp
    have e3 : ¬ (Int.ofNat n * (i.bytes : Int) > 2 ^ 48) := by
      have : (Int.ofNat n * (i.bytes : Int)) = ((n * i.bytes : Nat) : Int) := by simp
      rw [this]
      have : n * i.bytes ≤ 1048576 * 65536 := Nat.mul_le_mul hn hby
      omega
    simp only [List.getElem?_toArray, List.getElem?_cons_zero, List.getElem?_cons_succ, Sem.run_bind, run_und hu, run_und hd, run_size hs, Result.andThen_ok, Sem.run_pure, if_true, asInt, asIntOf, e1, Sem.run_ite, if_neg e2, run_info hi, if_neg e3, Bool.not_true, Bool.false_eq_true, if_false]
    have e4 : (Int.ofNat n).toNat = n := rfl
    rw [e4, if_pos hle]
    by_cases h0 : n * size = 0
    · have hn0 : n = 0 := by
        rcases Nat.mul_eq_zero.1 h0 with h | h
        · exact h
        · omega
      subst hn0
      rw [zeroCells_nil] at hst
      rw [if_pos h0]
      simp only [Result.andThen_ok]
      cases base with
      | none => subst hst; rfl
      | some a => simp only [Sem.run_bind, hst, Result.andThen_ok, Sem.run_pure]
    · rw [if_neg h0]
      simp only [hz, Result.andThen_ok]
      cases base with
      | none => subst hst; rfl
      | some a => simp only [Sem.run_bind, hst, Result.andThen_ok, Sem.run_pure]

theorem run_append_grow' {P : Program} {w : World} {st xt elem ty : TypeId} {i : TypeInfo} {n len cap : Nat} {base : Option Addr} {x zv : Value} {olds news : Array Value} (hu : P.underlying st = some (.slice elem)) (hi : P.info? elem = some i)
    (hx : AppX P w elem i.size xt x n news) (hlt : cap < len + n) (hby : i.bytes ≤ 65536) (hneed : len + n ≤ 2000000000) (hz : ∀ w', (zeroValue elem).run P w' = .ok zv w')
    (hold : (Builtin.firstCells i.size len (.slice base len cap)).run P w.drew = .ok olds w.drew) :
    (Builtin.append_ #[st, xt] ty #[.slice base len cap, x]).run P w =
      .ok (.slice (some ⟨w.heap.size, 0, none⟩) (len + n) (grownCap w (len + n) cap elem)) (w.drew.alloc (.cells (olds ++ news ++ Builtin.zeroCells zv.cells (grownCap w (len + n) cap elem - (len + n))) elem)) := by
  have hs : sizeT P elem = some i.size := by simp [sizeT, hi]
  obtain ⟨d, hd, hcase⟩ := hx.und
  have hnle : ¬ (len + n ≤ cap) := by omega
  have hfit : ¬ (Builtin.nextslicecap (len + n) cap * i.bytes > 2 ^ 48) := by
    have h1 : (len + n) * i.bytes ≤ 2000000000 * 65536 := Nat.mul_le_mul hneed hby
    have := growslice_fits (bytes := i.bytes) hlt (by omega)
    omega
  have hmax : ¬ (((len + n : Nat) : Int) > IntKind.i64.max) := by
    simp only [IntKind.max, IntKind.signed, IntKind.bits, if_true]; omega
  have hforced : (Question.appendCap (len + n) cap elem).forced = false := rfl
  unfold Builtin.append_
  rcases hcase with ⟨hni, hlen, hf⟩ | ⟨⟨k, rfl⟩, rfl, hn, hpos, zv', hz', ⟨j, hj, _⟩, rfl, hzs⟩
  · have hold' : (Builtin.firstCells i.size len (.slice base len cap)).run P { w with drawn := w.drawn + 1 } = .ok olds { w with drawn := w.drawn + 1 } := hold
    rcases hni with rfl | ⟨e, rfl⟩
    all_goals
      simp only [List.getElem?_toArray, List.getElem?_cons_zero, List.getElem?_cons_succ, Sem.run_bind, run_und hu, run_und hd, run_size hs, Result.andThen_ok, Sem.run_pure, Bool.false_eq_true, if_false, hlen, Sem.run_ite, if_neg hnle, run_info hi, hmax, false_and, if_neg hfit, run_choose, hforced, run_askRoom]
      simp only [hold', Result.andThen_ok, Bool.not_false, if_true, hf { w with drawn := w.drawn + 1 } rfl, hz, newRow, Sem.run_bind, run_newObj, Sem.run_pure]
      rfl
  · obtain rfl : zv' = zv := by have a := hz' w; rw [hz w] at a; cases a; rfl
    have e1 : IntKind.i64.wrap (Int.ofNat n) = Int.ofNat n := by simp only [IntKind.wrap, IntKind.bits, IntKind.signed]; simp; omega
    have e2 : ¬ (Int.ofNat n < 0) := by simp
    have e3 : ¬ (Int.ofNat n * (i.bytes : Int) > 2 ^ 48) := by
      have : (Int.ofNat n * (i.bytes : Int)) = ((n * i.bytes : Nat) : Int) := by simp
      rw [this]
      have : n * i.bytes ≤ 1048576 * 65536 := Nat.mul_le_mul hn hby
      omega
    simp only [List.getElem?_toArray, List.getElem?_cons_zero, List.getElem?_cons_succ, Sem.run_bind, run_und hu, run_und hd, run_size hs, Result.andThen_ok, Sem.run_pure, if_true, asInt, asIntOf, e1, Sem.run_ite, if_neg e2, run_info hi, if_neg e3, Bool.not_true, Bool.false_eq_true, if_false]
    have e4 : (Int.ofNat n).toNat = n := rfl
    rw [e4, if_neg hnle]
    simp only [hmax, false_and, if_false, Result.andThen_ok, if_neg hfit, run_choose, hforced, Bool.false_eq_true, run_askRoom]
    have hold' : (Builtin.firstCells i.size len (.slice base len cap)).run P { w with drawn := w.drawn + 1 } = .ok olds { w with drawn := w.drawn + 1 } := hold
    simp only [hold', Result.andThen_ok]
    by_cases h0 : n * i.size = 0
    · have hn0 : n = 0 := by
        rcases Nat.mul_eq_zero.1 h0 with h | h
        · exact h
        · omega
      subst hn0
      rw [if_pos h0]
      simp only [Sem.run_pure, Result.andThen_ok, zeroCells_nil, hz, newRow, Sem.run_bind, run_newObj]
      rfl
    · rw [if_neg h0]
      simp only [Sem.run_bind, hz', Sem.run_pure, Result.andThen_ok, newRow, run_newObj]
      rfl


theorem run_zeroT' {P : Program} {t : TypeId} {l : List AV} (h : zeroT P t = some l) : ∃ v i, (∀ w', (zeroValue t).run P w' = .ok v w') ∧ absL v.cells.toList = some l ∧ P.info? t = some i ∧ l.length = i.size := by
  unfold zeroT at h
  cases hi : P.info? t with
  | none => simp [hi] at h
  | some i =>
    simp only [hi] at h
    cases hz : i.zero with
    | none => simp [hz] at h
    | some v =>
      simp only [hz] at h
      cases ha : absL v.cells.toList with
      | none => simp [ha] at h
      | some r =>
        simp only [ha] at h
        split at h
        · cases h; rename_i hl; exact ⟨v, i, fun w' => by simp [zeroValue, run_info hi, hz], ha, rfl, hl⟩
        · cases h

theorem take_append_list {l r : List Value} {n : Nat} (h : l.length = n) : (l ++ r).take n = l := by rw [← h]; simp

/-- The growth: a new object. -/
theorem grow_ok {P : Program} {w0 : World} {C : CM} {H : Heap} {w : World} (hR : Rel w0 C H w) {elem : TypeId} {i : TypeInfo} {n : Nat} {l : List AV} {cs : Array Value} {cap : Nat} (hcap : n ≤ cap)
    (hl : l.length = n * i.size) (hcs : cs.size = cap * i.size) (hv : VRs C l (cs.toList.take l.length)) (h1 : ∀ a ∈ l, a.one = true) {nx : Sem Next}
    (hrun : nx.run P w = .ok (.value (.slice (some ⟨w.heap.size, 0, none⟩) n cap)) (w.drew.alloc (.cells cs elem))) : OROk P w0 C w nx (growA H n i.size l) := by
  unfold growA
  cases hn : newObj H l with
  | none => exact trivial
  | some r =>
    obtain ⟨o, H'⟩ := r
    have hm : n * i.size ≤ cap * i.size := Nat.mul_le_mul_right _ hcap
    obtain ⟨C', hle, hR', hC'⟩ := hR.drew.newRow hn elem (0, 0) (vs := cs) (by omega) hv h1 (by simp)
    refine ⟨C', _, _, hle, hR', ?_, .inl hrun⟩
    have := VR.sl (i := 0) (len := n) (esz := i.size) (room := none) (cap := cap) hC' (by dsimp only; omega) (by dsimp only; omega) hcap (fun r hr => by cases hr) (fun _ => by dsimp only; omega)
    simpa using this

theorem len_le_of {len esz n : Nat} (h : len * esz ≤ n) (hp : 0 < esz) : len ≤ n := Nat.le_trans (Nat.le_mul_of_pos_right len hp) h

theorem append_ok {P : Program} {w0 : World} {C : CM} {H : Heap} {w : World} (hR : Rel w0 C H w) {st xt elem ty : TypeId} {i : TypeInfo} (hu : P.underlying st = some (.slice elem)) (hi : P.info? elem = some i) (hpos : 0 < i.size)
    (hby : i.bytes ≤ 65536) {z : List AV} (hz : zeroT P elem = some z) {s : AV} {sv x : Value} (hs : VR C s sv) {n : Nat} {new : List AV} {news : Array Value} (hx : AppX P w elem i.size xt x n news) (hn : n ≤ 1048576)
    (hnew : VRs C new news.toList) (hone : ∀ a ∈ new, a.one = true) (hlen : new.length = n * i.size) :
    OROk P w0 C w (do pure (.value (← Builtin.append_ #[st, xt] ty #[sv, x]))) (appendA H i.size s n new) := by
  have hsz : sizeT P elem = some i.size := by simp [sizeT, hi]
  obtain ⟨zv, j, hz1, hz2, hz3, hz4⟩ := run_zeroT' hz
  rw [hi] at hz3; cases hz3
  have hzs : zv.cells.size = i.size := by
    have := (absL_spec (C := C) hz2).1.length
    simp at this; omega
  have hnews : news.size = n * i.size := by have := hnew.length; simp at this; omega
  unfold appendA
  split
  · rename_i h0
    have hn0 : n = 0 := Nat.eq_of_beq_eq_true h0
    subst hn0
    have hnil : news = #[] := Array.eq_empty_of_size_eq_zero (by omega)
    subst hnil
    split
    · cases hs
      have hr := run_append_room' (ty := ty) (base := none) (len := 0) (cap := 0) (w' := w) hu hsz hx (by omega) rfl
      exact val_same hR .nilSl (by simp only [Sem.run_bind, hr, Result.andThen_ok, Sem.run_pure])
    · cases hs with
      | @emp a cap =>
        have hr := run_append_room' (ty := ty) (base := some a) (len := 0) (cap := cap) (w' := w) hu hsz hx (by omega) rfl
        exact val_same hR (x := .slice (some a) 0 cap) .emp (by simp only [Sem.run_bind, hr, Result.andThen_ok, Sem.run_pure])
    · rename_i o v k len esz room
      have hs0 := hs
      cases hs with
      | @sl _ _ _ _ _ _ L cap hL q1 q2 q3 =>
        have hr := run_append_room' (ty := ty) (base := some ⟨L.b, L.d + k, none⟩) (len := len) (cap := cap) (w' := w) hu hsz hx (by omega) rfl
        exact val_same hR hs0 (by simp only [Sem.run_bind, hr, Result.andThen_ok, Sem.run_pure]; rfl)
    · exact trivial
  · rename_i h0
    have hn0 : n ≠ 0 := fun e => by rw [e] at h0; cases h0
    split
    · cases hs
      have hg := grownCap_ge w (0 + n) 0 elem
      refine grow_ok hR (elem := elem) (cap := grownCap w (0 + n) 0 elem) (cs := #[] ++ news ++ Builtin.zeroCells zv.cells (grownCap w (0 + n) 0 elem - (0 + n))) (by omega) hlen ?_ ?_ hone ?_
      · rw [Array.size_append, Array.size_append, size_zeroCells, hzs, hnews]
        have := mul_split i.size (show 0 + n ≤ grownCap w (0 + n) 0 elem from hg)
        simp at this ⊢; omega
      · rw [Array.toList_append, Array.toList_append, take_append_list (by simp; omega)]
        simpa using hnew
      · have := run_append_grow' (ty := ty) (base := none) (len := 0) (cap := 0) (olds := #[]) hu hi hx (by omega) hby (by omega) hz1 (by simp [Builtin.firstCells])
        simp only [Sem.run_bind, this, Result.andThen_ok, Sem.run_pure, Nat.zero_add]
    · rename_i o v k len esz room
      split
      · exact trivial
      · rename_i he
        rw [Bool.and_eq_true] at he
        have hlim : len ≤ lim := Nat.le_of_ble_eq_true he.2
        have he' : esz = i.size := Nat.eq_of_beq_eq_true he.1
        subst he'
        cases hs with
        | @sl _ _ _ _ _ _ L cap hL q1 q2 q3 q4 q5 =>
          have hadd : (⟨L.b, L.d + k, none⟩ : Addr).add (len * i.size) = ⟨L.b, L.d + (k + len * i.size), none⟩ := add_addr _ _ _ _
          have hmul : (len + n) * i.size = len * i.size + n * i.size := Nat.add_mul _ _ _
          -- the old cells, at the world behind the draw
          have hold : ∀ old, readAt H o v k (len * i.size) = some old → ∃ olds : Array Value, (Builtin.firstCells i.size len (.slice (some ⟨L.b, L.d + k, none⟩) len cap)).run P w.drew = .ok olds w.drew ∧ VRs C old olds.toList ∧ (∀ a ∈ old, a.one = true) ∧ old.length = len * i.size := by
            intro old hr
            obtain ⟨vs, p1, p2, p3, p4, _, _⟩ := hR.drew.read P hr hL
            exact ⟨vs.toArray, by simpa [Builtin.firstCells] using p1, by simpa using p2, p3, p4⟩
          split
          · rename_i r
            obtain ⟨hcap, hroom⟩ := q4 r rfl
            subst hcap
            split
            · rename_i hle
              have hle' : len + n ≤ cap := Nat.le_of_ble_eq_true hle
              split
              · rename_i H' hw
                have hw' : writeAt H o v (k + len * i.size) new = some H' := hw
                obtain ⟨w', p1, p2⟩ := hR.write P hw' hL hnew hone
                have hm2 : (len + n) * i.size ≤ cap * i.size := Nat.mul_le_mul_right _ hle'
                refine ⟨C, w', .slice (some ⟨L.b, L.d + k, none⟩) (len + n) cap, CM.le_refl C, p2, .sl hL (show k + (len + n) * i.size ≤ L.n by omega) q2 hle' (fun r hr => by cases hr; exact ⟨rfl, hroom⟩) (fun e => by cases e), .inl ?_⟩
                simp only [Sem.run_bind, run_append_room' (w' := w') (base := some ⟨L.b, L.d + k, none⟩) hu hsz hx hle' (by dsimp only; rw [hadd]; exact p1), Result.andThen_ok, Sem.run_pure]
              · exact trivial
            · rename_i hle
              have hlt : cap < len + n := by
                rcases Nat.lt_or_ge cap (len + n) with h | h
                · exact h
                · rw [show Nat.ble (Nat.add len n) cap = true from Nat.ble_eq_true_of_le h] at hle; cases hle
              split
              · rename_i old hr
                obtain ⟨olds, p1, p2, p3, p4⟩ := hold old hr
                have hos : olds.size = len * i.size := by have := p2.length; simp at this; omega
                have hg := grownCap_ge w (len + n) cap elem
                refine grow_ok hR (elem := elem) (cap := grownCap w (len + n) cap elem) (cs := olds ++ news ++ Builtin.zeroCells zv.cells (grownCap w (len + n) cap elem - (len + n))) hg ?_ ?_ ?_ ?_ ?_
                · rw [List.length_append, p4, hlen]; exact hmul.symm
                · rw [Array.size_append, Array.size_append, size_zeroCells, hzs, hnews, hos]
                  have := mul_split i.size hg
                  omega
                · rw [Array.toList_append, Array.toList_append, take_append_list (by simp; omega)]
                  exact p2.append hnew
                · intro a ha
                  rcases List.mem_append.1 ha with h | h
                  · exact p3 a h
                  · exact hone a h
                · have := run_append_grow' (ty := ty) (base := some ⟨L.b, L.d + k, none⟩) hu hi hx hlt hby (by unfold lim at hlim; omega) hz1 p1
                  simp only [Sem.run_bind, this, Result.andThen_ok, Sem.run_pure]
              · exact trivial
          · have hfull := q5 rfl
            split
            · rename_i c clen ver hg
              split
              · exact trivial
              · rename_i hv
                have hv' : v = ver := Nat.eq_of_beq_eq_true hv
                subst hv'
                have ho := hR.fresh _ _ _ hL
                have hob := hR.obj o _ ho hg
                obtain ⟨p1, p2, p3, vs, e, lo, hi', p4, p5, p6, p7⟩ := hob L hL
                split
                · rename_i hle
                  have hle' : k + (len + n) * i.size ≤ clen := Nat.le_of_ble_eq_true hle
                  have hle2 : len + n ≤ cap := by
                    have : (len + n) * i.size ≤ cap * i.size := by omega
                    exact Nat.le_of_mul_le_mul_right this hpos
                  split
                  · rename_i H' hw
                    have hw' : writeAt H o v (k + len * i.size) new = some H' := hw
                    obtain ⟨w', r1, r2⟩ := hR.write P hw' hL hnew hone
                    refine ⟨C, w', .slice (some ⟨L.b, L.d + k, none⟩) (len + n) cap, CM.le_refl C, r2, .sl hL (show k + (len + n) * i.size ≤ L.n by omega) q2 hle2 (fun r hr => by cases hr) (fun _ => hfull), .inl ?_⟩
                    simp only [Sem.run_bind, run_append_room' (w' := w') (base := some ⟨L.b, L.d + k, none⟩) hu hsz hx hle2 (by dsimp only; rw [hadd]; exact r1), Result.andThen_ok, Sem.run_pure]
                  · exact trivial
                · rename_i hnle
                  split
                  · exact trivial
                  · rename_i hk
                    have hk' : k = 0 := Nat.eq_of_beq_eq_true hk
                    subst hk'
                    split
                    · exact trivial
                    · rename_i htip
                      have htip' : len * i.size = clen := Nat.eq_of_beq_eq_true htip
                      by_cases hc : len + n ≤ cap
                      · -- there is room: written behind what is there
                        have hm2 : (len + n) * i.size ≤ cap * i.size := Nat.mul_le_mul_right _ hc
                        obtain ⟨w', vs', r1, r2, r3, r4, r5, r6, r7, r8, r9⟩ := run_storeCells P ⟨L.b, L.d + (0 + len * i.size), none⟩ news.toList 0 w vs e lo hi' rfl p4 (hnew.one hone) (by simp; omega)
                          (fun j hj hj' => by simp at hj hj'; exact p6 j (by omega) (by omega))
                        obtain ⟨hR', hle'⟩ := hR.bump ho ⟨_, _, hL⟩ hg ⟨L.b, L.d, clen + new.length, L.sz⟩ (ofListFrom new clen c) (clen + new.length) (w' := w')
                          (hR.low.trans ⟨r6, r7, r8, by omega, fun j hj => r4 j (by dsimp only; have := p2 rfl; omega)⟩) (by omega) (show L.b < w'.heap.size by rw [r5]; exact hR.lt _ _ _ hL)
                          (fun o' v' L' hL' hb => (hR.excl _ _ _ _ _ _ hL hL' hb.symm (p2 rfl)).symm)
                          (fun o' v' L' hne hL' => r4 _ (fun e' => hne (hR.excl _ _ _ _ _ _ hL hL' e'.symm (p2 rfl)).symm))
                          (by
                            intro L' hL'
                            rw [CM.ext_same] at hL'; cases hL'
                            refine ⟨rfl, fun _ => p2 rfl, by dsimp only; omega, vs', e, lo, hi', r2, by dsimp only; omega, p6, ?_⟩
                            refine CellsR.mono (CM.le_ext _ ?_ (.inl ⟨_, _, hL⟩)) (p7.lay hnew hone (Nat.le_refl _) (Nat.le_refl _) (.inr rfl) (fun j => ?_))
                            · cases e' : C o (v + 1) with
                              | none => rfl
                              | some L'' => have := hR.top _ _ _ _ _ ho hg _ _ e'; omega
                            · rw [r9 j]
                              have : L.d + (0 + len * i.size) + 0 = L.d + clen := by omega
                              simp only [this])
                        refine ⟨_, w', .slice (some ⟨L.b, L.d + 0, none⟩) (len + n) cap, hle', hR', ?_, .inl ?_⟩
                        · exact VR.sl (L := ⟨L.b, L.d, clen + new.length, L.sz⟩) (i := 0) (len := len + n) (esz := i.size) (room := none) (cap := cap) (CM.ext_same C o (v + 1) ⟨L.b, L.d, clen + new.length, L.sz⟩)
                            (by dsimp only; omega) (by dsimp only; omega) hc (fun r hr => by cases hr) (fun _ => by dsimp only; omega)
                        · simp only [Sem.run_bind, run_append_room' (w' := w') (base := some ⟨L.b, L.d + 0, none⟩) hu hsz hx hc (by dsimp only; rw [hadd]; exact r1), Result.andThen_ok, Sem.run_pure]
                      · -- a new row
                        have hr : ∃ old, readAt H o v 0 (len * i.size) = some old := by
                          unfold readAt
                          rw [hg]
                          have hb : Nat.ble (Nat.add 0 (len * i.size)) clen = true := Nat.ble_eq_true_of_le (by show 0 + len * i.size ≤ clen; omega)
                          simp only [Nat.beq_refl, hb]
                          have : ∀ m a, a + m ≤ clen → ∃ l, getCells c a m = some l := by
                            intro m
                            induction m with
                            | zero => intro a _; exact ⟨[], rfl⟩
                            | succ m ih =>
                              intro a ha
                              obtain ⟨x1, y1, _⟩ := p7 a (by omega)
                              obtain ⟨l1, y2⟩ := ih (a + 1) (by omega)
                              exact ⟨x1 :: l1, by simp only [getCells, y1, y2]⟩
                          exact this _ 0 (by omega)
                        obtain ⟨old, hr⟩ := hr
                        obtain ⟨olds, s1, s2, s3, s4⟩ := hold old hr
                        have hos : olds.size = len * i.size := by have := s2.length; simp at this; omega
                        have hge := grownCap_ge w (len + n) cap elem
                        have hrun := run_append_grow' (ty := ty) (base := some ⟨L.b, L.d + 0, none⟩) hu hi hx (by omega) hby (by unfold lim at hlim; omega) hz1 s1
                        have hms := mul_split i.size hge
                        have hcsz : (olds ++ news ++ Builtin.zeroCells zv.cells (grownCap w (len + n) cap elem - (len + n))).size = grownCap w (len + n) cap elem * i.size := by
                          rw [Array.size_append, Array.size_append, size_zeroCells, hzs, hnews, hos]; omega
                        obtain ⟨hR', hle'⟩ := hR.bump ho ⟨_, _, hL⟩ hg ⟨w.heap.size, 0, clen + new.length, grownCap w (len + n) cap elem * i.size⟩ (ofListFrom new clen c) (clen + new.length)
                          (w' := w.drew.alloc (.cells (olds ++ news ++ Builtin.zeroCells zv.cells (grownCap w (len + n) cap elem - (len + n))) elem))
                          (hR.low.drew.alloc hR.low.size _) (by rw [World.size_alloc, World.size_drew]; omega) (by rw [World.size_alloc, World.size_drew]; dsimp only; omega)
                          (fun o' v' L' hL' hb => by have := hR.lt _ _ _ hL'; dsimp only at hb; omega)
                          (fun o' v' L' _ hL' => heap_alloc_lt w.drew _ (hR.lt _ _ _ hL'))
                          (by
                            intro L' hL'
                            rw [CM.ext_same] at hL'; cases hL'
                            refine ⟨rfl, fun _ => hR.low.size, by dsimp only; omega, _, elem, 0, 0, heap_alloc_new w.drew _, by rw [hcsz]; exact Nat.le_refl _, fun _ _ _ => by omega, ?_⟩
                            have hnone : C o (v + 1) = none := by
                              cases e' : C o (v + 1) with
                              | none => rfl
                              | some L'' => have := hR.top _ _ _ _ _ ho hg _ _ e'; omega
                            refine CellsR.mono (CM.le_ext _ hnone (.inl ⟨_, _, hL⟩)) ?_
                            obtain ⟨g1, g2⟩ := getCells_spec (show getCells c 0 (len * i.size) = some old by
                              unfold readAt at hr; rw [hg] at hr; dsimp only at hr
                              split at hr
                              · split at hr
                                · exact hr
                                · cases hr
                              · cases hr)
                            intro j hj
                            rw [get_ofList new clen c j, Nat.zero_add]
                            by_cases hj' : clen ≤ j ∧ j < clen + new.length
                            · rw [if_pos hj']
                              obtain ⟨a, x1, y1, y2, y3⟩ := hnew.get' (i := j - clen) (by omega)
                              refine ⟨a, y1, hone a (List.mem_of_getElem? y1), x1, ?_, y3⟩
                              rw [Array.getElem?_append_left (by rw [Array.size_append]; omega), Array.getElem?_append_right (by omega), hos, htip']
                              simpa using y2
                            · rw [if_neg hj']
                              have hj2 : j < len * i.size := by omega
                              have := g2 j hj2
                              rw [Nat.zero_add] at this
                              obtain ⟨a, x1, y1, y2, y3⟩ := s2.get' (i := j) (by omega)
                              rw [y1] at this
                              refine ⟨a, this, s3 a (List.mem_of_getElem? y1), x1, ?_, y3⟩
                              rw [Array.getElem?_append_left (by rw [Array.size_append]; omega), Array.getElem?_append_left (by omega)]
                              simpa using y2)
                        refine ⟨_, _, .slice (some ⟨w.heap.size, 0, none⟩) (len + n) (grownCap w (len + n) cap elem), hle', hR', ?_, .inl ?_⟩
                        · have := VR.sl (i := 0) (len := len + n) (esz := i.size) (room := none) (cap := grownCap w (len + n) cap elem) (CM.ext_same C o (v + 1) ⟨w.heap.size, 0, clen + new.length, grownCap w (len + n) cap elem * i.size⟩)
                            (by dsimp only; omega) (by dsimp only; omega) hge (fun r hr => by cases hr) (fun _ => by dsimp only; omega)
                          simpa using this
                        · simp only [Sem.run_bind, hrun, Result.andThen_ok, Sem.run_pure]
            · exact trivial
    · exact trivial

end Go.Sv
