/- How the relation between the two heaps is kept: a new object, a write, a read. -/
import Derived.Test.YtnlnmpjdcopngaaGreatSvBase
namespace Go.Sv
open Go.RowKit (Below)

def CM.ext (C : CM) (o v : Nat) (L : Loc) : CM := ⟨fun o' v' => if o' = o ∧ v' = v then some L else C o' v', max C.nx (o + 1)⟩
theorem CM.ext_same (C : CM) (o v : Nat) (L : Loc) : C.ext o v L o v = some L := by simp [CM.ext]
theorem CM.ext_ne (C : CM) {o v o' v' : Nat} (L : Loc) (h : ¬ (o' = o ∧ v' = v)) : C.ext o v L o' v' = C o' v' := by simp only [CM.ext]; rw [if_neg h]
theorem CM.le_ext {C : CM} {o v : Nat} (L : Loc) (h : C o v = none) (hn : (∃ v' L', C o v' = some L') ∨ C.nx ≤ o) : C.le (C.ext o v L) := by
  refine ⟨fun o' v' L' h' => ?_, Nat.le_max_left _ _, fun o' v' L' h' => ?_⟩
  · by_cases e : o' = o ∧ v' = v
    · obtain ⟨rfl, rfl⟩ := e; rw [h] at h'; cases h'
    · rw [CM.ext_ne C L e]; exact h'
  · by_cases e : o' = o ∧ v' = v
    · obtain ⟨rfl, rfl⟩ := e; exact hn
    · rw [CM.ext_ne C L e] at h'; exact .inl ⟨v', L', h'⟩

theorem MR.mono' {C C' : CM} (h : C.keep C') : ∀ {l : List (AV × AV × Nat)} {r : List MapEntry}, MR C l r → MR C' l r
  | _, _, .nil => .nil
  | _, _, .cons hk hv hb hs => .cons (hk.mono' h) (hv.mono' h) hb (MR.mono' h hs)
theorem OVR.mono' {C C' : CM} (h : C.keep C') {a : Option AV} {v : Value} (k : OVR C a v) : OVR C' a v := by
  cases a with
  | none => exact k
  | some a => exact VR.mono' h k
theorem ER.mono' {C C' : CM} (h : C.keep C') {n : Nat} {E : Tr AV} {tm : Array Value} (k : ER n C E tm) : ER n C' E tm :=
  ⟨k.1, k.2.1, fun t ht => (k.2.2 t ht).mono' h⟩
theorem CellsR.mono' {C C' : CM} (h : C.keep C') {c : Tr AV} {len : Nat} {vs : Array Value} {d : Nat} (k : CellsR C c len vs d) : CellsR C' c len vs d :=
  fun i hi => let ⟨a, h1, h2, v, h3, h4⟩ := k i hi; ⟨a, h1, h2, v, h3, h4.mono' h⟩
theorem MR.mono {C C' : CM} (h : C.le C') {l : List (AV × AV × Nat)} {r : List MapEntry} (k : MR C l r) : MR C' l r := k.mono' h.keep
theorem OVR.mono {C C' : CM} (h : C.le C') {a : Option AV} {v : Value} (k : OVR C a v) : OVR C' a v := k.mono' h.keep
theorem ER.mono {C C' : CM} (h : C.le C') {n : Nat} {E : Tr AV} {tm : Array Value} (k : ER n C E tm) : ER n C' E tm := k.mono' h.keep
theorem CellsR.mono {C C' : CM} (h : C.le C') {c : Tr AV} {len : Nat} {vs : Array Value} {d : Nat} (k : CellsR C c len vs d) : CellsR C' c len vs d := k.mono' h.keep

/-- A heap whose blocks of this object's are as they were. -/
theorem ObjR.frame' {B : Nat} {C C' : CM} {w w' : World} {o : Nat} {ob : AObj} (h : ObjR B C w o ob) (hc : C.keep C') (hn : ∀ v L, C' o v = some L → C o v = some L)
    (hb : ∀ v L, C o v = some L → w'.heap[L.b]? = w.heap[L.b]?) : ObjR B C' w' o ob := by
  cases ob with
  | cells c len ver ro =>
    intro L hL
    have hL' := hn _ _ hL
    obtain ⟨h1, h2, h3, vs, e, lo, hi, h4, h5, h6, h7⟩ := h L hL'
    exact ⟨h1, h2, h3, vs, e, lo, hi, by rw [hb _ _ hL']; exact h4, h5, h6, h7.mono' hc⟩
  | map es ck =>
    intro L hL
    have hL' := hn _ _ hL
    obtain ⟨h1, ces, h2, h3⟩ := h L hL'
    exact ⟨h1, ces, by rw [hb _ _ hL']; exact h2, h3.mono' hc⟩
  | iter len n pos =>
    intro L hL
    have hL' := hn _ _ hL
    obtain ⟨h1, h0, s, h2, h3⟩ := h L hL'
    exact ⟨h1, h0, s, by rw [hb _ _ hL']; exact h2, h3⟩
  | loop st pend f n E ps a b d =>
    intro L hL
    have hL' := hn _ _ hL
    obtain ⟨h1, tm, Ld, h2, h3, h4⟩ := h L hL'
    exact ⟨h1, tm, Ld, hc _ _ _ h2, by rw [hb _ _ hL']; exact h3, h4.mono' hc⟩
  | defd op =>
    intro L hL
    have hL' := hn _ _ hL
    obtain ⟨h1, h2⟩ := h L hL'
    exact ⟨h1, by rw [hb _ _ hL']; exact h2⟩

theorem ObjR.frame {B : Nat} {C C' : CM} {w w' : World} {o : Nat} {ob : AObj} (h : ObjR B C w o ob) (hc : C.le C') (hn : ∀ v L, C' o v = some L → C o v = some L)
    (hb : ∀ v L, C o v = some L → w'.heap[L.b]? = w.heap[L.b]?) : ObjR B C' w' o ob := h.frame' hc.keep hn hb
theorem Heap.get_push_same (H : Heap) (x : AObj) : (H.push x).get H.next = some x := get_set_same _ _ _
theorem Heap.get_push_ne (H : Heap) (x : AObj) {o : Nat} (ho : o < H.next) : (H.push x).get o = H.get o :=
  get_set_ne (by omega) _ _
theorem Heap.get_put_same (H : Heap) (o : Nat) (x : AObj) : (H.put o x).get o = some x := get_set_same _ _ _
theorem Heap.get_put_ne (H : Heap) {o o' : Nat} (x : AObj) (hne : o' ≠ o) : (H.put o x).get o' = H.get o' := get_set_ne hne _ _

theorem heap_alloc_lt (w : World) (x : Obj) {k : Nat} (h : k < w.heap.size) : (w.alloc x).heap[k]? = w.heap[k]? := Below.heap_alloc w x k h
theorem heap_alloc_new (w : World) (x : Obj) : (w.alloc x).heap[w.heap.size]? = some x := by
  show (w.heap.push x)[w.heap.size]? = some x
  simp

theorem Rel.next_none {w0 : World} {C : CM} {H : Heap} {w : World} (h : Rel w0 C H w) (v : Nat) : C H.next v = none := by
  cases e : C H.next v with
  | none => rfl
  | some L => have := h.fresh _ _ _ e; omega

/-- A new object, whose block is new. -/
theorem Rel.push {w0 : World} {C : CM} {H : Heap} {w : World} (h : Rel w0 C H w) (ob : AObj) (x : Obj) (n sz : Nat)
    (hob : ObjR w0.heap.size (C.ext H.next 0 ⟨w.heap.size, 0, n, sz⟩) (w.alloc x) H.next ob) :
    Rel w0 (C.ext H.next 0 ⟨w.heap.size, 0, n, sz⟩) (H.push ob) (w.alloc x) ∧ C.le (C.ext H.next 0 ⟨w.heap.size, 0, n, sz⟩) := by
  have hle : C.le (C.ext H.next 0 ⟨w.heap.size, 0, n, sz⟩) := CM.le_ext _ (h.next_none 0) (.inr (Nat.le_of_eq h.nx))
  refine ⟨⟨by show max C.nx (H.next + 1) = H.next + 1; rw [h.nx]; exact Nat.max_eq_right (Nat.le_succ _), h.low.alloc h.low.size x, ?_, ?_, ?_, ?_, ?_⟩, hle⟩
  · intro o v L hL
    show o < H.next + 1
    by_cases e : o = H.next ∧ v = 0
    · omega
    · rw [CM.ext_ne _ _ e] at hL; have := h.fresh _ _ _ hL; omega
  · intro o v L hL
    rw [World.size_alloc]
    by_cases e : o = H.next ∧ v = 0
    · obtain ⟨rfl, rfl⟩ := e; rw [CM.ext_same] at hL; cases hL; exact Nat.lt_succ_self _
    · rw [CM.ext_ne _ _ e] at hL; have := h.lt _ _ _ hL; omega
  · intro o v L o' v' L' hL hL' hb hB
    by_cases e : o = H.next ∧ v = 0 <;> by_cases e' : o' = H.next ∧ v' = 0
    · omega
    · obtain ⟨rfl, rfl⟩ := e
      rw [CM.ext_same] at hL; cases hL
      rw [CM.ext_ne _ _ e'] at hL'; have := h.lt _ _ _ hL'; dsimp at hb; omega
    · obtain ⟨rfl, rfl⟩ := e'
      rw [CM.ext_same] at hL'; cases hL'
      rw [CM.ext_ne _ _ e] at hL; have := h.lt _ _ _ hL; dsimp at hb; omega
    · rw [CM.ext_ne _ _ e] at hL; rw [CM.ext_ne _ _ e'] at hL'; exact h.excl _ _ _ _ _ _ hL hL' hb hB
  · intro o ob' ho hg
    by_cases e : o = H.next
    · subst e; rw [Heap.get_push_same] at hg; cases hg; exact hob
    · have ho' : o < H.next := by have : o < H.next + 1 := ho; omega
      rw [Heap.get_push_ne _ _ ho'] at hg
      refine (h.obj _ _ ho' hg).frame hle (fun v L hL => ?_) (fun v L hL => heap_alloc_lt _ _ (h.lt _ _ _ hL))
      rwa [CM.ext_ne _ _ (by omega)] at hL
  · intro o c len ver ro ho hg v L hL
    by_cases e : o = H.next
    · subst e
      by_cases ev : v = 0
      · omega
      · rw [CM.ext_ne _ _ (by omega)] at hL; have := h.fresh _ _ _ hL; omega
    · have ho' : o < H.next := by have : o < H.next + 1 := ho; omega
      rw [Heap.get_push_ne _ _ ho'] at hg
      rw [CM.ext_ne _ _ (by omega)] at hL
      exact h.top _ _ _ _ _ ho' hg _ _ hL

/-- An object of one's own is turned: the blocks of the others stay. -/
theorem Rel.put {w0 : World} {C : CM} {H : Heap} {w w' : World} (h : Rel w0 C H w) {o : Nat} (ho : o < H.next) (ob : AObj) (hlow : Below w0.heap.size w0 w')
    (hsz : w.heap.size ≤ w'.heap.size) (hfr : ∀ o' v L, o' ≠ o → C o' v = some L → w'.heap[L.b]? = w.heap[L.b]?) (hob : ObjR w0.heap.size C w' o ob)
    (htop : ∀ c len ver ro, ob = .cells c len ver ro → ∀ v L, C o v = some L → v ≤ ver) : Rel w0 C (H.put o ob) w' := by
  refine ⟨h.nx, hlow, h.fresh, fun o v L hL => Nat.lt_of_lt_of_le (h.lt o v L hL) hsz, h.excl, ?_, ?_⟩
  · intro o' ob' ho' hg
    by_cases e : o' = o
    · subst e; rw [Heap.get_put_same] at hg; cases hg; exact hob
    · have ho'' : o' < H.next := ho'
      rw [Heap.get_put_ne H ob e] at hg
      exact (h.obj _ _ ho' hg).frame (CM.le_refl C) (fun v L hL => hL) (fun v L hL => hfr _ _ _ e hL)
  · intro o' c len ver ro ho' hg v L hL
    by_cases e : o' = o
    · subst e; rw [Heap.get_put_same] at hg; cases hg; exact htop _ _ _ _ rfl v L hL
    · have ho'' : o' < H.next := ho'
      rw [Heap.get_put_ne H ob e] at hg
      exact h.top _ _ _ _ _ ho' hg _ _ hL

/-- Draws do not matter. -/
theorem Rel.drew {w0 : World} {C : CM} {H : Heap} {w : World} (h : Rel w0 C H w) : Rel w0 C H w.drew :=
  ⟨h.nx, h.low.drew, h.fresh, h.lt, h.excl, fun o ob ho hg => (h.obj o ob ho hg).frame (CM.le_refl C) (fun _ _ hL => hL) (fun _ _ _ => rfl), h.top⟩

/-! ### Reading -/
theorem run_loadCellsFrom (P : Program) (w : World) (a : Addr) : ∀ (n i : Nat) (acc : Array Value) (r : List Value), r.length = n → (∀ j, j < n → w.cell? (a.add (i + j)) = r[j]?) →
    (loadCellsFrom a i n acc).run P w = .ok (acc ++ r.toArray) w
  | 0, i, acc, r, hr, _ => by
    have : r = [] := List.eq_nil_of_length_eq_zero hr
    subst this; simp [loadCellsFrom]
  | n + 1, i, acc, r, hr, h => by
    cases r with
    | nil => simp at hr
    | cons v r =>
      have h0 : w.cell? (a.add i) = some v := by simpa using h 0 (by omega)
      simp only [loadCellsFrom, Sem.run_bind, run_load, h0, Result.andThen_ok]
      rw [run_loadCellsFrom P w a n (i + 1) (acc.push v) r (by simpa using hr) (fun j hj => by
        have := h (j + 1) (by omega)
        rw [show i + 1 + j = i + (j + 1) from by omega, this, List.getElem?_cons_succ])]
      simp
theorem run_loadCells (P : Program) (w : World) (a : Addr) (n : Nat) (r : List Value) (hr : r.length = n) (h : ∀ j, j < n → w.cell? (a.add j) = r[j]?) :
    (loadCells a n).run P w = .ok r.toArray w := by
  unfold loadCells
  rw [run_loadCellsFrom P w a n 0 #[] r hr (fun j hj => by rw [Nat.zero_add]; exact h j hj)]
  simp

theorem add_addr (b d i j : Nat) : (⟨b, d + i, none⟩ : Addr).add j = ⟨b, d + (i + j), none⟩ := by
  unfold Addr.add
  by_cases h : j = 0
  · subst h; simp
  · rw [if_neg h]; simp [Nat.add_assoc]
theorem cell_at {w : World} {b i : Nat} {vs : Array Value} {e : TypeId} {fz : Nat × Nat} (h : w.heap[b]? = some (.cells vs e fz)) : w.cell? ⟨b, i, none⟩ = vs[i]? := by
  simp [World.cell?, h]

/-- What 'readAt' says, said of the world. -/
theorem Rel.read {w0 : World} {C : CM} {H : Heap} {w : World} (h : Rel w0 C H w) (P : Program) {o v i n : Nat} {l : List AV} (hr : readAt H o v i n = some l) {L : Loc} (hL : C o v = some L) :
    ∃ vs : List Value, (loadCells ⟨L.b, L.d + i, none⟩ n).run P w = .ok vs.toArray w ∧ VRs C l vs ∧ (∀ a ∈ l, a.one = true) ∧ l.length = n ∧ i + n ≤ L.n ∧
      (∀ j, j < n → w.cell? ⟨L.b, L.d + (i + j), none⟩ = vs[j]?) := by
  unfold readAt at hr
  split at hr
  · rename_i c len ver ro hg
    split at hr
    · rename_i hv
      have hv' := Nat.eq_of_beq_eq_true hv
      subst hv'
      split at hr
      · rename_i hle
        have hle' : i + n ≤ len := Nat.le_of_ble_eq_true hle
        have hob := h.obj o _ (h.fresh _ _ _ hL) hg
        obtain ⟨h1, _, h3, vs, e, lo, hi, h4, h5, h6, h7⟩ := hob L hL
        obtain ⟨k1, k2⟩ := getCells_spec hr
        -- the values
        have hex : ∀ j, j < n → ∃ a, l[j]? = some a ∧ a.one = true ∧ ∃ x, vs[L.d + (i + j)]? = some x ∧ VR C a x := by
          intro j hj
          obtain ⟨a, q1, q2, x, q3, q4⟩ := h7 (i + j) (by omega)
          exact ⟨a, by rw [← k2 j hj]; exact q1, q2, x, q3, q4⟩
        have hsz : L.d + (i + n) ≤ vs.size := by omega
        let r : List Value := (List.range n).map fun j => vs.getD (L.d + (i + j)) undef
        have hrl : r.length = n := by simp [r]
        have hrj : ∀ j, j < n → vs[L.d + (i + j)]? = r[j]? := by
          intro j hj
          simp only [r, List.getElem?_map, List.getElem?_range hj, Option.map_some]
          rw [Array.getElem?_eq_getElem (by omega), Array.getD_eq_getD_getElem?, Array.getElem?_eq_getElem (by omega)]
          rfl
        refine ⟨r, ?_, ?_, ?_, k1, by omega, ?_⟩
        · exact run_loadCells P w _ n r hrl (fun j hj => by rw [add_addr, cell_at h4]; exact hrj j hj)
        · refine VRs.mk (by omega) (fun j a hj => ?_)
          have hjn : j < n := by have := (List.getElem?_eq_some_iff.1 hj).1; omega
          obtain ⟨a', q1, _, x, q3, q4⟩ := hex j hjn
          rw [hj] at q1; cases q1
          exact ⟨x, by rw [← hrj j hjn]; exact q3, q4⟩
        · intro a ha
          obtain ⟨j, hj, rfl⟩ := List.getElem_of_mem ha
          obtain ⟨a', q1, q2, _⟩ := hex j (by omega)
          rw [List.getElem?_eq_getElem hj] at q1; cases q1; exact q2
        · intro j hj; rw [cell_at h4]; exact hrj j hj
      · cases hr
    · cases hr
  · cases hr

/-! ### Writing -/
theorem run_storeCells (P : Program) (a : Addr) : ∀ (r : List Value) (i : Nat) (w : World) (vs : Array Value) (e : TypeId) (lo hi : Nat), a.spot = none → w.heap[a.block]? = some (.cells vs e (lo, hi)) →
    (∀ v ∈ r, v.oneCell' = true) → a.off + i + r.length ≤ vs.size → (∀ j, a.off + i ≤ j → j < a.off + i + r.length → ¬ (lo ≤ j ∧ j < hi)) →
    ∃ w' vs', (storeCells a r i).run P w = .ok () w' ∧ w'.heap[a.block]? = some (.cells vs' e (lo, hi)) ∧ vs'.size = vs.size ∧ (∀ k, k ≠ a.block → w'.heap[k]? = w.heap[k]?) ∧
      w'.heap.size = w.heap.size ∧ w'.os = w.os ∧ w'.tape = w.tape ∧ w'.output = w.output ∧ (∀ j, vs'[j]? = if a.off + i ≤ j ∧ j < a.off + i + r.length then r[j - (a.off + i)]? else vs[j]?)
  | [], i, w, vs, e, lo, hi, _, hb, _, _, _ => by
    refine ⟨w, vs, rfl, hb, rfl, fun _ _ => rfl, rfl, rfl, rfl, rfl, fun j => ?_⟩
    rw [if_neg (by simp)]
  | v :: r, i, w, vs, e, lo, hi, hs, hb, hv, hsz, hf => by
    simp only [List.length_cons] at hsz hf
    have hadd : a.add i = ⟨a.block, a.off + i, none⟩ := by
      unfold Addr.add
      by_cases h : i = 0
      · subst h; simp; cases a; simp_all
      · rw [if_neg h]
    have hcell : w.cell? (a.add i) = some (vs[a.off + i]'(by omega)) := by
      rw [hadd, cell_at hb, Array.getElem?_eq_getElem]
    have hfz : w.frozen? (a.add i) = false := by
      rw [hadd]
      simp only [World.frozen?, hb]
      have := hf (a.off + i) (by omega) (by omega)
      simp only [Bool.and_eq_false_iff, decide_eq_false_iff_not]
      omega
    have hrun : (store (a.add i) v).run P w = .ok () (w.setCell (a.add i) v) := by
      rw [run_store P w _ v .plain (hv v (by simp)), hcell]
      simp [hfz]
    have hblk : (w.setCell (a.add i) v).heap[a.block]? = some (.cells (vs.setIfInBounds (a.off + i) v) e (lo, hi)) := by
      rw [hadd]
      simp only [World.setCell, Array.getElem?_modify, if_true, hb, Option.map_some]
      simp
    obtain ⟨w', vs', h1, h2, h3, h4, h5, h6, h7, h8, h9⟩ := run_storeCells P a r (i + 1) (w.setCell (a.add i) v) _ e lo hi hs hblk (fun x hx => hv x (by simp [hx]))
      (by rw [Array.size_setIfInBounds]; omega) (fun j hj hj' => hf j (by omega) (by omega))
    refine ⟨w', vs', ?_, h2, by rw [h3, Array.size_setIfInBounds], ?_, ?_, h6, h7, h8, ?_⟩
    · simp only [storeCells, Sem.run_bind, hrun, Result.andThen_ok]; exact h1
    · intro k hk
      rw [h4 k hk]
      exact Below.heap_setCell w (a.add i) v k (by rw [hadd]; exact hk)
    · rw [h5, World.size_setCell]
    · intro j
      rw [h9 j]
      by_cases hj : a.off + (i + 1) ≤ j ∧ j < a.off + (i + 1) + r.length
      · rw [if_pos hj, if_pos (by simp only [List.length_cons]; omega)]
        have : j - (a.off + i) = (j - (a.off + (i + 1))) + 1 := by omega
        rw [this, List.getElem?_cons_succ]
      · rw [if_neg hj, Array.getElem?_setIfInBounds]
        by_cases hj' : a.off + i = j
        · subst hj'
          rw [if_pos rfl, if_pos (by omega), if_pos (by simp only [List.length_cons]; omega)]
          simp
        · rw [if_neg hj', if_neg (by simp only [List.length_cons]; omega)]

theorem VRs.get' {C : CM} {l : List AV} {r : List Value} (h : VRs C l r) {i : Nat} (hi : i < l.length) : ∃ a v, l[i]? = some a ∧ r[i]? = some v ∧ VR C a v := by
  obtain ⟨v, h1, h2⟩ := h.get (List.getElem?_eq_getElem hi)
  exact ⟨_, v, List.getElem?_eq_getElem hi, h1, h2⟩
theorem VRs.one {C : CM} : ∀ {l : List AV} {r : List Value}, VRs C l r → (∀ a ∈ l, a.one = true) → ∀ v ∈ r, v.oneCell' = true
  | _, _, .nil, _, v, hv => by simp at hv
  | _, _, .cons e es, h, v, hv => by
    rcases List.mem_cons.1 hv with rfl | hv
    · rw [e.one]; exact h _ (by simp)
    · exact VRs.one es (fun a ha => h a (by simp [ha])) v hv

/-- A row of cells that is laid over an object's. -/
theorem CellsR.lay {C : CM} {c : Tr AV} {len len' : Nat} {vs vs' : Array Value} {d i : Nat} {l : List AV} {r : List Value} (h : CellsR C c len vs d) (hv : VRs C l r) (h1 : ∀ a ∈ l, a.one = true)
    (hi : i ≤ len) (_hle : i + l.length ≤ len') (hcov : len' ≤ len ∨ len' = i + l.length)
    (hvs : ∀ j, vs'[j]? = if d + i ≤ j ∧ j < d + i + r.length then r[j - (d + i)]? else vs[j]?) : CellsR C (ofListFrom l i c) len' vs' d := by
  intro k hk
  rw [get_ofList l i c k]
  have hlen := hv.length
  rw [hvs]
  by_cases hk' : i ≤ k ∧ k < i + l.length
  · rw [if_pos hk', if_pos (by omega)]
    obtain ⟨a, v, q1, q2, q3⟩ := hv.get' (i := k - i) (by omega)
    refine ⟨a, q1, h1 a (List.mem_of_getElem? q1), v, ?_, q3⟩
    rw [show d + k - (d + i) = k - i from by omega]; exact q2
  · rw [if_neg hk', if_neg (by omega)]
    exact h k (by omega)

/-- What 'writeAt' does, done in the world. -/
theorem Rel.write {w0 : World} {C : CM} {H H' : Heap} {w : World} (h : Rel w0 C H w) (P : Program) {o v i : Nat} {l : List AV} (hw : writeAt H o v i l = some H') {L : Loc} (hL : C o v = some L)
    {r : List Value} (hr : VRs C l r) (h1 : ∀ a ∈ l, a.one = true) : ∃ w', (storeCells ⟨L.b, L.d + i, none⟩ r).run P w = .ok () w' ∧ Rel w0 C H' w' := by
  unfold writeAt at hw
  split at hw
  · rename_i c len ver hg
    split at hw
    · rename_i hv
      have hv' := Nat.eq_of_beq_eq_true hv
      subst hv'
      split at hw
      · rename_i hle
        have hle' : i + l.length ≤ len := Nat.le_of_ble_eq_true hle
        cases hw
        have ho := h.fresh _ _ _ hL
        have hob := h.obj o _ ho hg
        obtain ⟨q1, q2, q3, vs, e, lo, hi, q4, q5, q6, q7⟩ := hob L hL
        have hrl := hr.length
        obtain ⟨w', vs', k1, k2, k3, k4, k5, k6, k7, k8, k9⟩ := run_storeCells P ⟨L.b, L.d + i, none⟩ r 0 w vs e lo hi rfl q4 (hr.one h1) (by dsimp; omega) (fun j hj hj' => by dsimp at hj hj'; exact q6 j (by omega) (by omega))
        refine ⟨w', k1, h.put ho _ ?_ (by omega) ?_ ?_ ?_⟩
        · exact h.low.trans ⟨k6, k7, k8, by omega, fun k hk => k4 k (by dsimp; have := q2 rfl; omega)⟩
        · intro o' v' L' hne hL'
          refine k4 _ (fun e' => hne ?_)
          exact (h.excl _ _ _ _ _ _ hL hL' e'.symm (q2 rfl)).symm
        · intro L' hL'
          rw [hL] at hL'; cases hL'
          refine ⟨q1, q2, q3, vs', e, lo, hi, k2, by omega, q6, q7.lay hr h1 (by omega) hle' (.inl (Nat.le_refl _)) (fun j => ?_)⟩
          rw [k9 j]
          rfl
        · intro c' len' ver' ro' he v' L' hL'
          cases he
          exact h.top _ _ _ _ _ ho hg _ _ hL'
      · cases hw
    · cases hw
  · cases hw

/-- A new row of cells. -/
theorem Rel.newRow {w0 : World} {C : CM} {H H' : Heap} {w : World} (h : Rel w0 C H w) {l : List AV} {o : Nat} (hn : newObj H l = some (o, H')) (e : TypeId) (fz : Nat × Nat) {vs : Array Value}
    (hle : l.length ≤ vs.size) (hv : VRs C l (vs.toList.take l.length)) (h1 : ∀ a ∈ l, a.one = true) (hfz : ∀ i, i < vs.size → ¬ (fz.1 ≤ i ∧ i < fz.2)) :
    ∃ C', C.le C' ∧ Rel w0 C' H' (w.alloc (.cells vs e fz)) ∧ C' o 0 = some ⟨w.heap.size, 0, l.length, vs.size⟩ := by
  unfold Sv.newObj at hn
  cases hn
  have hle' : C.le (C.ext H.next 0 ⟨w.heap.size, 0, l.length, vs.size⟩) := CM.le_ext _ (h.next_none 0) (.inr (Nat.le_of_eq h.nx))
  refine ⟨C.ext H.next 0 ⟨w.heap.size, 0, l.length, vs.size⟩, hle', (h.push _ _ l.length vs.size ?_).1, CM.ext_same _ _ _ _⟩
  intro L hL
  rw [CM.ext_same] at hL
  cases hL
  refine ⟨rfl, fun _ => h.low.size, by dsimp; omega, vs, e, fz.1, fz.2, heap_alloc_new _ _, Nat.le_refl _, fun i _ hi => hfz i hi, ?_⟩
  intro k hk
  rw [get_ofList l 0 .e k, if_pos (by omega)]
  obtain ⟨a, v, q1, q2, q3⟩ := hv.get' (i := k) hk
  refine ⟨a, by simpa using q1, h1 a (List.mem_of_getElem? q1), v, ?_, q3.mono hle'⟩
  rw [List.getElem?_take_of_lt hk] at q2
  simpa using q2
end Go.Sv
