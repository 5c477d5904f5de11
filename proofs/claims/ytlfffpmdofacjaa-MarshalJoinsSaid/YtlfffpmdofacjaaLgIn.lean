/- What is handed in from outside: plain data, read off the memory. -/
import Derived.Test.YtlfffpmdofacjaaLgSimp
import Derived.Test.YtlfffpmdofacjaaSvLaw
import Derived.OpenShut
import Derived.Carry
namespace Go.Sv
open Go.RowKit (Below)

/-! ### Shapes of plain data -/
mutual
inductive Sh where
  | bool
  | u
  | b
  | i
  | k (k : IntKind)
  | str
  | sl (s : Sh)
  | st (l : ShL)
inductive ShL where
  | nil
  | cons (s : Sh) (l : ShL)
end
mutual
def Sh.n : Sh → Nat
  | .st l => l.n
  | _ => 1
def ShL.n : ShL → Nat
  | .nil => 0
  | .cons s l => s.n + l.n
end
mutual
def Sh.T : Sh → Type
  | .bool => Bool
  | .u => UInt64
  | .b => UInt8
  | .i => { n : Int // inI n }
  | .k _ => Int
  | .str => { l : List UInt8 // l.length ≤ maxLen }
  | .sl s => { l : List s.T // l.length ≤ maxLen }
  | .st l => l.T
def ShL.T : ShL → Type
  | .nil => Unit
  | .cons s l => s.T × l.T
end
mutual
def Sh.enc : (s : Sh) → s.T → List LV
  | .bool, x => [.bool x]
  | .u, x => [.u x]
  | .b, x => [.b x]
  | .i, x => [.i x.1]
  | .k k, x => [.int k x]
  | .str, x => [.str x.1]
  | .sl s, x => [.lst (x.1.flatMap s.enc) x.1.length s.n]
  | .st l, x => l.enc x
def ShL.enc : (l : ShL) → l.T → List LV
  | .nil, _ => []
  | .cons s l, x => s.enc x.1 ++ l.enc x.2
end
mutual
theorem Sh.enc_length : ∀ (s : Sh) (x : s.T), (s.enc x).length = s.n
  | .bool, _ => rfl
  | .u, _ => rfl
  | .b, _ => rfl
  | .i, _ => rfl
  | .k _, _ => rfl
  | .str, _ => rfl
  | .sl _, _ => rfl
  | .st l, x => by simp only [Sh.enc, Sh.n]; exact ShL.enc_length l x
theorem ShL.enc_length : ∀ (l : ShL) (x : l.T), (l.enc x).length = l.n
  | .nil, _ => rfl
  | .cons s l, x => by simp only [ShL.enc, ShL.n, List.length_append, Sh.enc_length s x.1, ShL.enc_length l x.2]
end

/-- A type's shape. -/
noncomputable def shFs (P : Program) (f : TypeId → Option Sh) (tot : Nat) : List Field → Nat → Option ShL
  | [], off => if off = tot then some .nil else none
  | fd :: l, off => match f fd.type with
    | none => none
    | some s => if fd.offset = off ∧ P.cellsOf fd.type = s.n then match shFs P f tot l (off + s.n) with
      | none => none
      | some r => some (.cons s r)
      else none
noncomputable def shOf (P : Program) : Nat → TypeId → Option Sh
  | 0, _ => none
  | d + 1, t => match P.underlying t with
    | some .bool => some .bool
    | some (.int k) => match k with
      | .u64 => some .u
      | .u8 => some .b
      | .i64 => some .i
      | k => some (.k k)
    | some .string => some .str
    | some (.slice e) => match shOf P d e with
      | none => none
      | some s => if P.cellsOf e = s.n ∧ 0 < s.n then some (.sl s) else none
    | some (.struct fs) => match shFs P (shOf P d) (P.cellsOf t) fs.toList 0 with
      | none => none
      | some l => some (.st l)
    | _ => none
noncomputable def shsOf (P : Program) (d : Nat) : List TypeId → Option ShL
  | [] => some .nil
  | t :: l => match shOf P d t with
    | none => none
    | some s => if P.cellsOf t = s.n then match shsOf P d l with
      | none => none
      | some r => some (.cons s r)
      else none

/-! ### Memory from outside -/
/-- An object of the memory that is there: looked at alone. -/
theorem Rel.ro {W : World} {C : CM} {H : Heap} (h : Rel W C H W) {L : Loc} (hL : L.b < W.heap.size) {l : List AV} (hob : C.le (C.ext H.next 0 L) → ObjR W.heap.size (C.ext H.next 0 L) W H.next (.cells (ofListFrom l 0 .e) l.length 0 true)) :
    Rel W (C.ext H.next 0 L) (H.push (.cells (ofListFrom l 0 .e) l.length 0 true)) W ∧ C.le (C.ext H.next 0 L) := by
  have hle : C.le (C.ext H.next 0 L) := CM.le_ext _ (h.next_none 0) (.inr (Nat.le_of_eq h.nx))
  refine ⟨⟨by show max C.nx (H.next + 1) = H.next + 1; rw [h.nx]; exact Nat.max_eq_right (Nat.le_succ _), h.low, ?_, ?_, ?_, ?_, ?_⟩, hle⟩
  · intro o v L' hL'
    show o < H.next + 1
    by_cases e : o = H.next ∧ v = 0
    · omega
    · rw [CM.ext_ne _ _ e] at hL'; have := h.fresh _ _ _ hL'; omega
  · intro o v L' hL'
    by_cases e : o = H.next ∧ v = 0
    · obtain ⟨rfl, rfl⟩ := e; rw [CM.ext_same] at hL'; cases hL'; exact hL
    · rw [CM.ext_ne _ _ e] at hL'; exact h.lt _ _ _ hL'
  · intro o v L1 o' v' L2 h1 h2 hb hB
    by_cases e : o = H.next ∧ v = 0
    · obtain ⟨rfl, rfl⟩ := e; rw [CM.ext_same] at h1; cases h1; omega
    · by_cases e' : o' = H.next ∧ v' = 0
      · obtain ⟨rfl, rfl⟩ := e'; rw [CM.ext_same] at h2; cases h2; omega
      · rw [CM.ext_ne _ _ e] at h1; rw [CM.ext_ne _ _ e'] at h2; exact h.excl _ _ _ _ _ _ h1 h2 hb hB
  · intro o ob ho hg
    by_cases e : o = H.next
    · subst e; rw [Heap.get_push_same] at hg; cases hg; exact hob hle
    · have ho' : o < H.next := by have : o < H.next + 1 := ho; omega
      rw [Heap.get_push_ne _ _ ho'] at hg
      refine (h.obj _ _ ho' hg).frame hle (fun v L' hL' => ?_) (fun _ _ _ => rfl)
      rwa [CM.ext_ne _ _ (by omega)] at hL'
  · intro o c len ver ro ho hg v L' hL'
    by_cases e : o = H.next
    · subst e
      by_cases ev : v = 0
      · omega
      · rw [CM.ext_ne _ _ (by omega)] at hL'; have := h.fresh _ _ _ hL'; omega
    · have ho' : o < H.next := by have : o < H.next + 1 := ho; omega
      rw [Heap.get_push_ne _ _ ho'] at hg
      rw [CM.ext_ne _ _ (by omega)] at hL'
      exact h.top _ _ _ _ _ ho' hg _ _ hL'

/-- The evaluator's heap alone, where nothing is turned. -/
def outC (H : Heap) : Cx := ⟨[], fun o => o < H.next, H⟩
def Grow (H H' : Heap) : Prop := H.next ≤ H'.next ∧ ∀ o, o < H.next → H'.get o = H.get o
theorem Grow.refl (H : Heap) : Grow H H := ⟨Nat.le_refl _, fun _ _ => rfl⟩
theorem Grow.trans {A B C : Heap} (h : Grow A B) (k : Grow B C) : Grow A C := ⟨Nat.le_trans h.1 k.1, fun o ho => by rw [k.2 o (Nat.lt_of_lt_of_le ho h.1), h.2 o ho]⟩
theorem Grow.le {H H' : Heap} (h : Grow H H') : CxLe (outC H) (outC H') :=
  ⟨fun p k x e => by simp [outC] at e, fun o ho => ⟨Nat.lt_of_lt_of_le ho h.1, h.2 o ho⟩⟩

section imp
variable {HH : Type} {enc : TypeId × Value → HH} {P : Program} {W : World}

/-- Cells are read off: what they are, what stands for them. -/
def Got (W : World) (C : CM) (H : Heap) (cs : List Value) (s : Nat) (T : Type) (e : T → List LV) : Prop :=
  ∃ C' H' as, ∃ y : T, C.le C' ∧ Rel W C' H' W ∧ Grow H H' ∧ VRs C' as cs ∧ (∀ a ∈ as, a.one = true) ∧ ARs (outC H') (e y) as ∧ as.length = s

theorem got_one {C : CM} {H : Heap} (hR : Rel W C H W) {v : Value} {T : Type} {e : T → List LV} (y : T) (a : AV) (l : LV) (he : e y = [l]) (hv : VR C a v) (h1 : a.one = true) (hl : AR (outC H) l a) : Got W C H [v] 1 T e :=
  ⟨C, H, [a], y, CM.le_refl C, hR, .refl H, .cons hv .nil, by simpa using h1, by rw [he]; exact .cons hl .nil, rfl⟩

theorem not_frozen_row {ps : List MemPlace} (hz : W.noneFrozen ps) {b off n : Nat} (h : ∀ x ∈ MemPlace.row ⟨b, off, none⟩ n, x ∈ ps) {i : Nat} (hi : i < n) : W.frozen? ⟨b, off + i, none⟩ = false :=
  hz b (off + i) (h _ (List.mem_map.2 ⟨i, List.mem_range.2 hi, rfl⟩))

theorem got_cells : ∀ (fuel : Nat) (d : Nat) (t : TypeId) (s : Sh) (cs : List Value) (x : DataW HH × List MemPlace) (C : CM) (H : Heap), shOf P d t = some s → DataW.trod enc P W 0 (fun _ => true) true fuel t cs = some x → W.noneFrozen x.2 → Rel W C H W →
    Got W C H cs s.n s.T s.enc := by
  intro fuel
  induction fuel with
  | zero => intro d t s cs x C H _ h; simp [DataW.trod] at h
  | succ fuel ih =>
    intro d t s cs x C H hs h hz hR
    cases d with
    | zero => cases hs
    | succ d =>
      simp only [shOf] at hs
      split at hs
      · rename_i hu
        cases hs
        obtain ⟨b, rfl, _⟩ := DataW.trod_bool hu h
        exact got_one hR (T := Bool) b (.bool b) (.bool b) rfl (.bool b) rfl (.bool b)
      · rename_i k hu
        obtain ⟨n, rfl, _, hw⟩ := DataW.trod_int hu h
        split at hs
        · cases hs
          have hb := bounds_u64 hw
          refine got_one hR (T := UInt64) (UInt64.ofNat n.toNat) (.int .u64 n) (.u (UInt64.ofNat n.toNat)) rfl (.int _ _) rfl (.u' ?_)
          rw [UInt64.toNat_ofNat']
          simp only [Int.ofNat_eq_natCast]
          omega
        · cases hs
          have hb := bounds_u8 hw
          refine got_one hR (T := UInt8) (UInt8.ofNat n.toNat) (.int .u8 n) (.b (UInt8.ofNat n.toNat)) rfl (.int _ _) rfl (.b' ?_)
          rw [UInt8.toNat_ofNat']
          simp only [Int.ofNat_eq_natCast]
          omega
        · cases hs
          have hb := bounds_i64 hw
          exact got_one hR (T := { n : Int // inI n }) ⟨n, by unfold inI; omega⟩ (.int .i64 n) (.i n) rfl (.int _ _) rfl (.i n)
        · cases hs
          exact got_one hR (T := Int) n (.int k n) (.int k n) rfl (.int _ _) rfl (.int k n)
      · rename_i hu
        cases hs
        obtain ⟨b, rfl, _, hm⟩ := DataW.trod_string hu h
        exact got_one hR (T := { l : List UInt8 // l.length ≤ maxLen }) ⟨b.data.toList, by simpa using hm⟩ (.str b.data.toList.length (packL b.data.toList)) (.str b.data.toList) rfl (.str rfl rfl) rfl (.str _)
      · rename_i e hu
        split at hs
        · cases hs
        · rename_i se hse
          by_cases hc : P.cellsOf e = se.n ∧ 0 < se.n
          · rw [if_pos hc] at hs
            cases hs
            obtain ⟨hce, hpos⟩ := hc
            rcases DataW.trod_slice hu h with ⟨rfl, _⟩ | ⟨a, len, cap, elems, rest, n, hn, rfl, hx, _, hle, hmax, hlen, hel, hsp, _⟩
            · exact got_one hR (T := { l : List se.T // l.length ≤ maxLen }) ⟨[], by simp⟩ .nilSl (.lst [] 0 se.n) rfl .nilSl rfl .lstNil
            · cases hn
              by_cases h0 : len = 0
              · subst h0
                exact got_one hR (T := { l : List se.T // l.length ≤ maxLen }) ⟨[], by simp⟩ .emp (.lst [] 0 se.n) rfl .emp rfl .lstEmp
              · -- the elements, one behind the other
                obtain ⟨b, off, spot⟩ := a
                have hsome : ∀ i, i < cap → ∃ ecs, W.cells? 0 ((⟨b, off, spot⟩ : Addr).add (i * P.cellsOf e)) (P.cellsOf e) = some ecs := by
                  intro i hi
                  by_cases hil : i < len
                  · have := hel i hil
                    rw [List.getElem?_eq_getElem (by omega)] at this
                    cases hq : W.cells? 0 ((⟨b, off, spot⟩ : Addr).add (i * P.cellsOf e)) (P.cellsOf e) with
                    | none => rw [hq] at this; cases this
                    | some ecs => exact ⟨ecs, rfl⟩
                  · obtain ⟨hr1, hr2⟩ := hsp rfl
                    have := hr2 (i - len) (by omega)
                    rw [show len + (i - len) = i from by omega, List.getElem?_eq_getElem (by omega)] at this
                    cases hq : W.cells? 0 ((⟨b, off, spot⟩ : Addr).add (i * P.cellsOf e)) (P.cellsOf e) with
                    | none => rw [hq] at this; cases this
                    | some ecs => exact ⟨ecs, rfl⟩
                have hspot : spot = none := by
                  obtain ⟨ecs, he⟩ := hsome 0 (by omega)
                  obtain ⟨_, hl, hcell⟩ := World.cells?_some he
                  have := hcell 0 (by omega)
                  rw [List.getElem?_eq_getElem (by omega)] at this
                  simpa [Addr.add] using World.cell?_spot this
                subst hspot
                have hcells : ∀ i j, i < cap → j < se.n → ∃ v, W.cell? ⟨b, off + (i * se.n + j), none⟩ = some v := by
                  intro i j hi hj
                  obtain ⟨ecs, he⟩ := hsome i hi
                  obtain ⟨_, hl, hcell⟩ := World.cells?_some he
                  have := hcell j (by omega)
                  rw [List.getElem?_eq_getElem (by omega)] at this
                  rw [hce] at this
                  rw [WideShapes.add_plain, WideShapes.add_plain] at this
                  rw [← Nat.add_assoc]
                  exact ⟨_, this⟩
                -- the block
                obtain ⟨v0, hv0⟩ := hcells 0 0 (by omega) hpos
                obtain ⟨vs, ty, lo, hi, hblk⟩ : ∃ vs ty lo hi, W.heap[b]? = some (.cells vs ty (lo, hi)) := by
                  unfold World.cell? at hv0
                  dsimp only at hv0
                  split at hv0
                  · rename_i vs ty fz hblk; exact ⟨vs, ty, fz.1, fz.2, hblk⟩
                  · cases hv0
                have hcv : ∀ q, q < cap * se.n → ∃ v, vs[off + q]? = some v := by
                  intro q hq
                  obtain ⟨v, hv⟩ := hcells (q / se.n) (q % se.n) (by rw [Nat.div_lt_iff_lt_mul hpos]; exact hq) (Nat.mod_lt _ hpos)
                  have : q / se.n * se.n + q % se.n = q := by rw [Nat.mul_comm]; exact Nat.div_add_mod q se.n
                  rw [this, cell_at hblk] at hv
                  exact ⟨v, hv⟩
                have hvsz : off + cap * se.n ≤ vs.size := by
                  have hcpos : 0 < cap * se.n := Nat.mul_pos (by omega) hpos
                  obtain ⟨v, hv⟩ := hcv (cap * se.n - 1) (by omega)
                  have := (Array.getElem?_eq_some_iff.1 hv).1
                  omega
                have hrow : ∀ x', x' ∈ MemPlace.row ⟨b, off, none⟩ (cap * se.n) → x' ∈ x.2 := by
                  intro x' hx'
                  rw [hx]
                  have : (elems.length + rest.length) * P.cellsOf e = cap * se.n := by rw [hlen, (hsp rfl).1, hce]; congr 1; omega
                  rw [this]
                  exact List.mem_append_left _ hx'
                have loop : ∀ m, m ≤ len → ∃ C' H' as, ∃ ys : List se.T, C.le C' ∧ Rel W C' H' W ∧ Grow H H' ∧ (∀ a ∈ as, a.one = true) ∧ ARs (outC H') (ys.flatMap se.enc) as ∧ ys.length = m ∧ as.length = m * se.n ∧ ∀ q, q < m * se.n → ∃ a v, as[q]? = some a ∧ vs[off + q]? = some v ∧ VR C' a v := by
                  intro m
                  induction m with
                  | zero => intro _; exact ⟨C, H, [], [], CM.le_refl C, hR, .refl H, by simp, .nil, rfl, by simp, fun q hq => by omega⟩
                  | succ m ihm =>
                    intro hm
                    obtain ⟨C1, H1, as1, ys1, a1, a2, a3, a4, a5, a6, a7, a8⟩ := ihm (by omega)
                    obtain ⟨ecs, he⟩ := hsome m (by omega)
                    have hem := hel m (by omega)
                    rw [he, List.getElem?_eq_getElem (by omega)] at hem
                    obtain ⟨_, hl, hcell⟩ := World.cells?_some he
                    have hz' : W.noneFrozen (elems[m]'(by omega)).2 := fun b' off' hb' => hz b' off' (by
                      rw [hx]
                      exact List.mem_append_right _ (List.mem_flatMap.2 ⟨elems[m]'(by omega), by simp, hb'⟩))
                    obtain ⟨C2, H2, as2, y, b1, b2, b3, b4, b5, b6, b7⟩ := ih d e se ecs _ C1 H1 hse hem hz' a2
                    refine ⟨C2, H2, as1 ++ as2, ys1 ++ [y], CM.le_trans a1 b1, b2, a3.trans b3, ?_, ?_, by simp [a6], ?_, ?_⟩
                    · intro z hz
                      rcases List.mem_append.1 hz with h | h
                      · exact a4 z h
                      · exact b5 z h
                    · rw [List.flatMap_append]
                      refine (a5.mono b3.le).append ?_
                      simpa using b6
                    · rw [List.length_append, a7, b7, Nat.add_mul, Nat.one_mul]
                    · intro q hq
                      by_cases hqm : q < m * se.n
                      · obtain ⟨a, v, c1, c2, c3⟩ := a8 q hqm
                        exact ⟨a, v, by rw [List.getElem?_append_left (by omega)]; exact c1, c2, c3.mono b1⟩
                      · have hq2 : q - m * se.n < se.n := by rw [Nat.add_mul, Nat.one_mul] at hq; omega
                        obtain ⟨a, v, c1, c2, c3⟩ := b4.get' (i := q - m * se.n) (by omega)
                        refine ⟨a, v, by rw [List.getElem?_append_right (by omega), a7]; exact c1, ?_, c3⟩
                        have := hcell (q - m * se.n) (by omega)
                        rw [hce, WideShapes.add_plain, WideShapes.add_plain, cell_at hblk, c2] at this
                        rw [← this]
                        congr 1
                        omega
                obtain ⟨C1, H1, as, ys, a1, a2, a3, a4, a5, a6, a7, a8⟩ := loop len (Nat.le_refl _)
                have hbl : b < W.heap.size := by
                  have := (Array.getElem?_eq_some_iff.1 hblk).1
                  exact this
                have hmle : len * se.n ≤ cap * se.n := Nat.mul_le_mul_right _ hle
                have hnf : ∀ q, off ≤ q → q < off + cap * se.n → ¬ (lo ≤ q ∧ q < hi) := by
                  intro q h1 h2
                  have := not_frozen_row hz (fun x' hx' => hrow x' hx') (i := q - off) (n := cap * se.n) (by omega)
                  rw [show off + (q - off) = q from by omega] at this
                  unfold World.frozen? at this
                  dsimp only at this
                  rw [hblk] at this
                  simp at this
                  omega
                obtain ⟨c1, c2⟩ := a2.ro (L := ⟨b, off, len * se.n, off + cap * se.n⟩) hbl (l := as) (fun hle' L hL => by
                  rw [CM.ext_same] at hL
                  cases hL
                  refine ⟨by rw [a7], fun e => (by cases e), by show off + as.length ≤ off + cap * se.n; omega, vs, ty, lo, hi, hblk, hvsz, hnf, ?_⟩
                  intro q hq
                  rw [get_ofList, if_pos (by omega)]
                  obtain ⟨a, v, d1, d2, d3⟩ := a8 q (by omega)
                  exact ⟨a, by simpa using d1, a4 a (List.mem_of_getElem? d1), v, d2, d3.mono hle'⟩)
                have hg : Grow H1 (H1.push (.cells (ofListFrom as 0 .e) as.length 0 true)) := ⟨Nat.le_succ _, fun o ho => Heap.get_push_ne _ _ ho⟩
                refine ⟨_, _, [.sl H1.next 0 0 len se.n none], (⟨ys, by omega⟩ : { l : List se.T // l.length ≤ maxLen }), CM.le_trans a1 c2, c1, a3.trans hg, .cons ?_ .nil, by simp [AV.one], ?_, rfl⟩
                · exact VR.sl (L := ⟨b, off, len * se.n, off + cap * se.n⟩) (i := 0) (CM.ext_same _ _ _ _) (by dsimp only; omega) (by dsimp only; omega) hle (fun r e => by cases e) (fun _ => rfl)
                · show ARs _ [LV.lst (ys.flatMap se.enc) ys.length se.n] _
                  rw [a6]
                  refine .cons (.lst (Nat.lt_succ_self H1.next) (fun r e => by cases e) ?_ ?_ (a5.mono hg.le)) .nil
                  · have := a5.length
                    omega
                  · have hr := readAt_of (H := H1.push (.cells (ofListFrom as 0 .e) as.length 0 true)) (i := 0) (n := len * se.n) (Heap.get_push_same _ _) (getCells_new as) (Nat.le_refl _) (by omega)
                    rw [List.drop_zero, List.take_of_length_le (by omega)] at hr
                    exact hr
          · rw [if_neg hc] at hs; cases hs
      · rename_i fs hu
        split at hs
        · cases hs
        · rename_i l hl
          cases hs
          obtain ⟨xs, n, hn, hx, hcl, hxl, hfs⟩ := DataW.trod_struct hu h
          cases hn
          have key : ∀ (fl : List Field) (j off : Nat) (l : ShL) (C : CM) (H : Heap), fs.toList.drop j = fl → shFs P (shOf P d) (P.cellsOf t) fl off = some l → Rel W C H W → Got W C H (cs.drop off) l.n l.T l.enc := by
            intro fl
            induction fl with
            | nil =>
              intro j off l C H hj hl hR
              simp only [shFs] at hl
              split at hl
              · rename_i he
                cases hl
                refine ⟨C, H, [], (() : Unit), CM.le_refl C, hR, .refl H, ?_, by simp, .nil, rfl⟩
                rw [he, ← hcl, List.drop_length]
                exact .nil
              · cases hl
            | cons fd fl ihf =>
              intro j off l C H hj hl hR
              simp only [shFs] at hl
              split at hl
              · cases hl
              · rename_i s hs
                by_cases hc : fd.offset = off ∧ P.cellsOf fd.type = s.n
                · rw [if_pos hc] at hl
                  split at hl
                  · cases hl
                  · rename_i r hr
                    cases hl
                    have hjl : j < fs.toList.length := by
                      rcases Nat.lt_or_ge j fs.toList.length with h | h
                      · exact h
                      · rw [List.drop_eq_nil_of_le h] at hj; cases hj
                    have hfd : fs[j]? = some fd := by
                      rw [List.drop_eq_getElem_cons hjl] at hj
                      injection hj with h1 h2
                      rw [← h1]
                      simp
                    have hfj := hfs j fd hfd
                    rw [hc.1, hc.2] at hfj
                    have hxj : j < xs.length := by rw [hxl]; simpa using hjl
                    rw [List.getElem?_eq_getElem hxj] at hfj
                    obtain ⟨C1, H1, as1, y, a1, a2, a3, a4, a5, a6, a7⟩ := ih d fd.type s _ _ C H hs hfj (fun b' off' hb' => hz b' off' (by rw [hx]; exact List.mem_flatMap.2 ⟨_, by simp, hb'⟩)) hR
                    obtain ⟨C2, H2, as2, ys, b1, b2, b3, b4, b5, b6, b7⟩ := ihf (j + 1) (off + s.n) r C1 H1 (by rw [List.drop_eq_getElem_cons hjl] at hj; injection hj) hr a2
                    refine ⟨C2, H2, as1 ++ as2, (y, ys), CM.le_trans a1 b1, b2, a3.trans b3, ?_, ?_, (a6.mono b3.le).append b6, by rw [List.length_append, a7, b7]; rfl⟩
                    · have := (a4.mono b1).append b4
                      rwa [← List.drop_drop, List.take_append_drop] at this
                    · intro z hz
                      rcases List.mem_append.1 hz with h | h
                      · exact a5 z h
                      · exact b5 z h
                · rw [if_neg hc] at hl; cases hl
          have := key fs.toList 0 0 l C H (by simp) hl hR
          rw [List.drop_zero] at this
          exact this
      · cases hs
end imp
end Go.Sv
