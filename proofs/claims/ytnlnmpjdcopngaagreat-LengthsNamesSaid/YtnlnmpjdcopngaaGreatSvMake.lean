/- Operations that make an object and do nothing else: what they make, whenever that is. -/
import Derived.Test.YtnlnmpjdcopngaaGreatSvCanon
namespace Go.Sv
open Go.RowKit (Below)

/-- What an object owes that has no block: nothing of the world's. -/
def ObFree (ob : AObj) : Prop := ∀ B C w o, (∀ v, C.f o v = none) → ObjR B C w o ob
def MkOk (P : Program) (C : CM) (w : World) (nx : Sem Next) (v : AV) (ob : AObj) : Prop :=
  ∃ blk n sz x, nx.run P w = .ok (.value x) (w.alloc blk) ∧ ∀ (C1 : CM) (id : Nat), C.keep C1 → C1 id 0 = some ⟨w.heap.size, 0, n, sz⟩ →
    VR C1 (reId id v) x ∧ ∀ B, B ≤ w.heap.size → ObjR B C1 (w.alloc blk) id ob
def MkR (P : Program) (E : Tr AV) (H : Heap) (nx : (Operand → Value) → Sem Next) : OR → Prop
  | .no => True
  | .val v H1 => ∃ ob, True ∧ H1 = H.push ob ∧ idOf v = some H.next ∧ ObFree ob ∧ ∀ C w ρ, OpdOk C E ρ → MkOk P C w (nx ρ) v ob
  | .call _ _ => False
/-- An operation that just makes an object. -/
def Mk (P : Program) (F : OpF) (nx : (Operand → Value) → Sem Next) : Prop := ∀ E H, MkR P E H nx (F.run E H)

theorem Mk.congr {P : Program} {F : OpF} {nx nx' : (Operand → Value) → Sem Next} (h : ∀ ρ, nx ρ = nx' ρ) (s : Mk P F nx) : Mk P F nx' := by
  rw [show nx' = nx from funext fun ρ => (h ρ).symm]; exact s
theorem stuck_mk (P : Program) (nx : (Operand → Value) → Sem Next) : Mk P stuckF nx := fun _ _ => trivial

theorem newObj_some {H H' : Heap} {l : List AV} {o : Nat} (h : newObj H l = some (o, H')) : True ∧ True ∧ o = H.next ∧ H' = H.push (.cells (ofListFrom l 0 .e) l.length 0 false) := by
  unfold newObj at h
  cases h
  exact ⟨trivial, trivial, rfl, rfl⟩
theorem row_free {l : List AV} (_ : True) : ObFree (.cells (ofListFrom l 0 .e) l.length 0 false) := fun B C w o hn => fun L hL => by rw [hn] at hL; cases hL
/-- A row of cells that is made. -/
theorem row_mk {P : Program} {C : CM} {w : World} {l : List AV} {cs : Array Value} {t : TypeId} (_hl : True) (hv : VRs C l cs.toList) (h1 : ∀ a ∈ l, a.one = true) {nx : Sem Next} {v : AV} {x : Value}
    (hnx : nx.run P w = .ok (.value x) (w.alloc (.cells cs t))) (hx : ∀ (C1 : CM) (id : Nat), C1 id 0 = some ⟨w.heap.size, 0, l.length, cs.size⟩ → VR C1 (reId id v) x) :
    MkOk P C w nx v (.cells (ofListFrom l 0 .e) l.length 0 false) := by
  have hlen : l.length = cs.toList.length := hv.length
  have hlen' : l.length = cs.size := by simpa using hlen
  refine ⟨_, l.length, cs.size, x, hnx, fun C1 id hk hL => ⟨hx C1 id hL, fun B hB => fun L hL' => ?_⟩⟩
  rw [hL] at hL'
  cases hL'
  refine ⟨rfl, fun _ => hB, by dsimp; omega, cs, t, 0, 0, heap_alloc_new _ _, Nat.le_refl _, fun i _ _ => by omega, ?_⟩
  intro k hk'
  rw [get_ofList l 0 .e k, if_pos (by omega)]
  obtain ⟨a, v, q1, q2, q3⟩ := hv.get' (i := k) hk'
  refine ⟨a, by simpa using q1, h1 a (List.mem_of_getElem? q1), v, ?_, q3.mono' hk⟩
  simpa using q2

theorem newVar_mk {P : Program} {H : Heap} {l : List AV} {E : Tr AV} {nx : (Operand → Value) → Sem Next} {t : TypeId}
    (hnx : ∀ C w ρ, OpdOk C E ρ → ∃ cs : Array Value, VRs C l cs.toList ∧ (∀ a ∈ l, a.one = true) ∧ (nx ρ).run P w = .ok (.value (.pointer (some ⟨w.heap.size, 0, none⟩))) (w.alloc (.cells cs t))) :
    MkR P E H nx (newVarA H l) := by
  unfold newVarA
  split
  · rename_i o H' hn
    obtain ⟨q1, q2, rfl, rfl⟩ := newObj_some hn
    refine ⟨_, q1, rfl, rfl, row_free q2, fun C w ρ hρ => ?_⟩
    obtain ⟨cs, k1, k2, k3⟩ := hnx C w ρ hρ
    refine row_mk q2 k1 k2 k3 (fun C1 id hL => ?_)
    simpa [reId] using VR.ptr (i := 0) hL
  · exact trivial

theorem alloc_mk (P : Program) (t : TypeId) : Mk P (compOp P (.alloc t)) (fun _ => do pure (.value (← Instr.alloc t true (.tuple #[])))) := by
  intro E H
  show MkR P E H _ (OpF.run (match zeroT P t with
    | some l => ⟨fun _ H => newVarA H l⟩
    | none => stuckF) E H)
  cases hz : zeroT P t with
  | none => exact trivial
  | some l =>
    refine newVar_mk (t := t) (fun C w ρ hρ => ?_)
    obtain ⟨v, i, h1, h2, h3, h4⟩ := run_zeroT (w := w) hz
    obtain ⟨k1, k2⟩ := absL_spec (C := C) h2
    exact ⟨v.cells, k1, k2, by simp [Instr.alloc, h1, newVar, newRow]⟩

theorem unary1_mk {P : Program} {x : Operand} {f : Heap → AV → OR} {nx : (Operand → Value) → Sem Next} (h : ∀ E H a, (opd x).run E = some a → MkR P E H nx (f H a)) : Mk P (unary1 x f) nx := by
  intro E H
  show MkR P E H nx (Option.rec OR.no (fun a => f H a) ((opd x).run E))
  cases hx : (opd x).run E with
  | none => exact trivial
  | some a => exact h _ _ _ hx
theorem binary2_mk {P : Program} {x y : Operand} {f : Heap → AV → AV → OR} {nx : (Operand → Value) → Sem Next} (h : ∀ E H a b, (opd x).run E = some a → (opd y).run E = some b → MkR P E H nx (f H a b)) : Mk P (binary2 x y f) nx := by
  intro E H
  show MkR P E H nx (Option.rec OR.no (fun a => Option.rec OR.no (fun b => f H a b) ((opd y).run E)) ((opd x).run E))
  cases hx : (opd x).run E with
  | none => exact trivial
  | some a =>
    cases hy : (opd y).run E with
    | none => exact trivial
    | some b => exact h _ _ _ _ hx hy

theorem box_mk (P : Program) (t : TypeId) (x : Operand) : Mk P (compOp P (.box t x)) (fun ρ => do pure (.value (← Instr.box t (ρ x)))) := by
  refine unary1_mk fun E H a ha => ?_
  cases hc : a.cells with
  | none => exact trivial
  | some l =>
    refine newVar_mk (t := t) (fun C w ρ hρ => ?_)
    obtain ⟨k1, k2⟩ := (hρ _ _ ha).cells hc
    exact ⟨_, k1, k2, by simp [Instr.box, newVar, newRow]⟩

/-- A slice over a new row. -/
theorem newSl_mk {P : Program} {C : CM} {w : World} (t : TypeId) {l : List AV} {o len esz : Nat} {cs : Array Value} (_hl : True) (hv : VRs C l cs.toList) (h1 : ∀ a ∈ l, a.one = true) {cap : Nat} (hc : cap * esz = l.length) (hle : len ≤ cap)
    {nx : Sem Next} (hnx : nx.run P w = .ok (.value (.slice (some ⟨w.heap.size, 0, none⟩) len cap)) (w.alloc (.cells cs t))) : MkOk P C w nx (.sl o 0 0 len esz (some cap)) (.cells (ofListFrom l 0 .e) l.length 0 false) := by
  have hlen : l.length = cs.toList.length := hv.length
  have hlen' : l.length = cs.size := by simpa using hlen
  have hmul : len * esz ≤ cap * esz := Nat.mul_le_mul_right _ hle
  refine row_mk _hl hv h1 hnx (fun C1 id hL => ?_)
  have := VR.sl (i := 0) (len := len) (esz := esz) (room := some cap) (cap := cap) hL (by dsimp; omega) (by dsimp; omega) hle (fun r hr => by cases hr; exact ⟨rfl, by dsimp; omega⟩) (fun h => by cases h)
  simpa [reId] using this

theorem buildSlice_mk (P : Program) (t : TypeId) (len : Nat) (parts : Array (Nat × Operand)) :
    Mk P (buildSliceF P t len parts) (fun ρ => do pure (.value (← Instr.buildSlice t len (parts.map fun (i, x) => (i, ρ x))))) := by
  unfold buildSliceF
  split
  · rename_i elem hu
    split
    · exact stuck_mk P _
    · rename_i size hs
      split
      · exact stuck_mk P _
      · rename_i z hz
        split
        · rename_i hcond
          obtain ⟨hsz, hpos⟩ := hcond
          split
          · exact stuck_mk P _
          · rename_i ps hps
            intro E H
            dsimp only
            split
            · rename_i l hl
              split
              · rename_i o H' hn
                obtain ⟨n1, n2, rfl, rfl⟩ := newObj_some hn
                refine ⟨_, n1, rfl, rfl, row_free n2, fun C w ρ hρ => ?_⟩
                obtain ⟨v, i, h1, h2, h3, h4⟩ := run_zeroT (w := w) hz
                obtain ⟨k1, k2⟩ := absL_spec (C := C) h2
                have hzs : v.cells.size = size := by
                  have e1 := k1.length
                  unfold sizeT at hs; rw [h3] at hs; simp at hs e1; omega
                have hzl : z.length = size := by have e1 := k1.length; simp at e1; omega
                have hrel : VRs C (repeatL z len) ((Array.range (len * size)).map fun i => v.cells[i % v.cells.size]!).toList := by
                  rw [← hzs, zeros_eq]; exact repeatL_rel k1 len
                obtain ⟨vs, q1, q2, q3⟩ := partsAt_spec hps hρ hl hrel (repeatL_one k2 len)
                have hll : l.length = len * size := by
                  have e1 := q2.length
                  have e3 := fill_size q1
                  simp at e3 e1; omega
                refine newSl_mk elem n2 q2 q3 hll.symm (Nat.le_refl _) ?_
                have hf : Instr.fill (fun i => some (i * size, size)) ((Array.range (len * size)).map fun i => v.cells[i % v.cells.size]!) (parts.map fun (i, x) => (i, ρ x)).toList = some vs := by
                  rw [Array.toList_map]; exact q1
                have hbig : ¬ (len * size > 2 ^ 24) := by omega
                simp only [Instr.buildSlice, Sem.run_bind, run_und hu, run_size hs, Result.andThen_ok, Sem.run_ite, if_neg hbig]
                by_cases h0 : len * size = 0
                · rw [if_pos h0]
                  have hf0 : Instr.fill (fun i => some (i * size, size)) ((Array.range (len * size)).map fun i => (#[] : Array Value)[i % (#[] : Array Value).size]!) (parts.map fun (i, x) => (i, ρ x)).toList = some vs := by
                    rw [← hf, h0, range0, range0]
                  simp only [Sem.run_pure, Result.andThen_ok, hf0, newRow, Sem.run_bind, run_newObj]
                  rfl
                · rw [if_neg h0]
                  simp only [Sem.run_bind, h1, Sem.run_pure, Result.andThen_ok, hf, newRow, run_newObj]
                  rfl
              · exact trivial
            · exact trivial
        · exact stuck_mk P _
  · exact stuck_mk P _

theorem mkSlice_mk (P : Program) (t : TypeId) (l c : Operand) : Mk P (mkSliceF P t l c) (fun ρ => do pure (.value (← Instr.makeSlice t (ρ l) (ρ c)))) := by
  unfold mkSliceF
  split
  · rename_i elem hu
    split
    · exact stuck_mk P _
    · rename_i i hi
      split
      · exact stuck_mk P _
      · rename_i z hz
        split
        · rename_i hcond
          obtain ⟨hpos, hby⟩ := hcond
          refine binary2_mk fun E H a b ha0 hb0 => ?_
          split
          · rename_i x y
            split
            · rename_i hxy
              split
              · rename_i hy
                split
                · rename_i o H' hn
                  obtain ⟨n1, n2, rfl, rfl⟩ := newObj_some hn
                  refine ⟨_, n1, rfl, rfl, row_free n2, fun C w ρ hρ => ?_⟩
                  have ha := hρ _ _ ha0
                  have hb := hρ _ _ hb0
                  have hxy' : x ≤ y := Nat.le_of_ble_eq_true hxy
                  have hy' : y ≤ 1048576 := Nat.le_of_ble_eq_true hy
                  obtain ⟨v, j, h1, h2, h3, h4⟩ := run_zeroT (w := w) hz
                  obtain ⟨k1, k2⟩ := absL_spec (C := C) h2
                  rw [hi] at h3; cases h3
                  have hzs : v.cells.size = i.size := by have e1 := k1.length; simp at e1; omega
                  generalize hpl : ρ l = pl at ha
                  generalize hpc : ρ c = pc at hb
                  cases ha; cases hb
                  refine newSl_mk elem n2 (cs := (Array.range (y * i.size)).map fun k => v.cells[k % v.cells.size]!) (by rw [← hzs, zeros_eq]; exact repeatL_rel k1 y) (repeatL_one k2 y) (by rw [repeatL_length, h4]) hxy' ?_
                  have e1 : IntKind.i64.wrap (Int.ofNat x) = Int.ofNat x := by simp only [IntKind.wrap, IntKind.bits, IntKind.signed]; simp; omega
                  have e2 : IntKind.i64.wrap (Int.ofNat y) = Int.ofNat y := by simp only [IntKind.wrap, IntKind.bits, IntKind.signed]; simp; omega
                  have e3 : i.bytes * y ≤ 65536 * 1048576 := Nat.mul_le_mul hby hy'
                  have e4 : ¬ ((decide (Int.ofNat y < 0) || decide ((i.bytes : Int) * Int.ofNat y > 2 ^ 48) || decide (Int.ofNat x < 0) || decide (Int.ofNat x > Int.ofNat y)) = true) := by
                    have e5 : ((i.bytes : Int) * Int.ofNat y) = ((i.bytes * y : Nat) : Int) := by simp
                    rw [e5]
                    simp only [Bool.or_eq_true, decide_eq_true_eq, not_or]
                    refine ⟨⟨⟨by simp, by simp; omega⟩, by simp⟩, by simp; omega⟩
                  simp only [Instr.makeSlice, hpl, hpc, Sem.run_bind, run_und hu, run_info hi, asInt, asIntOf, Sem.run_pure, Result.andThen_ok, e1, e2, Sem.run_ite, if_neg e4, run_askRoom, run_size (show sizeT P elem = some i.size from by simp [sizeT, hi])]
                  have e6 : (Int.ofNat y).toNat = y := rfl
                  have e7 : (Int.ofNat x).toNat = x := rfl
                  rw [e6, e7]
                  by_cases h0 : y * i.size = 0
                  · rw [if_pos h0]
                    simp only [Sem.run_pure, Result.andThen_ok, newRow, Sem.run_bind, run_newObj]
                    have : ((Array.range (y * i.size)).map fun k => (#[] : Array Value)[k % (#[] : Array Value).size]!) = ((Array.range (y * i.size)).map fun k => v.cells[k % v.cells.size]!) := by rw [h0, range0, range0]
                    rw [this]; rfl
                  · rw [if_neg h0]
                    simp only [Sem.run_bind, h1, Sem.run_pure, Result.andThen_ok, newRow, run_newObj]
                    rfl
                · exact trivial
              · exact trivial
            · exact trivial
          · exact trivial
        · exact stuck_mk P _
  · exact stuck_mk P _

theorem pushMap_mk {P : Program} {H : Heap} {E : Tr AV} {nx : (Operand → Value) → Sem Next}
    (hnx : ∀ (C : CM) w ρ, OpdOk C E ρ → (nx ρ).run P w = .ok (.value (.map (some w.heap.size))) (w.alloc (.map #[] 0))) : MkR P E H nx (pushMap H) := by
  unfold pushMap
  refine ⟨_, trivial, rfl, rfl, fun B C w o hn L hL => (by rw [hn] at hL; cases hL), fun C w ρ hρ => ?_⟩
  refine ⟨_, 0, 0, _, hnx C w ρ hρ, fun C1 id hk hL => ⟨.map hL, fun B hB L hL' => ?_⟩⟩
  rw [hL] at hL'
  cases hL'
  exact ⟨hB, #[], heap_alloc_new _ _, .nil⟩
theorem mkMap_mk (P : Program) (t : TypeId) (r : Option Operand) : Mk P (mkMapF P t r) (fun ρ => do pure (.value (← Instr.makeMap t (r.map ρ)))) := by
  unfold mkMapF
  split
  · intro E H
    exact pushMap_mk (fun C w ρ hρ => by simp [Instr.makeMap])
  · rename_i x
    split
    · rename_i k e hu
      refine unary1_mk fun E H a ha => ?_
      split
      · refine pushMap_mk (fun C w ρ hρ => ?_)
        have := hρ _ _ ha
        generalize hx : ρ x = px at this
        cases this
        simp [Instr.makeMap, run_und hu, hx, asInt, asIntOf]
      · exact trivial
    · exact stuck_mk P _

/-- The class of those that just make. -/
theorem cls_mk {P : Program} {o : Oper} (h : cls P o.op = .al) : Mk P (compOp P o.op) (fun ρ => execOp ρ o) := by
  generalize ho : o.op = op at h
  cases op with
  | alloc t => exact Mk.congr (fun ρ => by simp only [execOp, ho]) (alloc_mk P t)
  | box t x => exact Mk.congr (fun ρ => by simp [execOp, ho]) (box_mk P t x)
  | buildSlice t n ps => exact Mk.congr (fun ρ => by simp [execOp, ho]) (buildSlice_mk P t n ps)
  | makeMap t r => exact Mk.congr (fun ρ => by simp [execOp, ho]) (mkMap_mk P t r)
  | makeSlice t l c => exact Mk.congr (fun ρ => by simp [execOp, ho]) (mkSlice_mk P t l c)
  | slice t _ _ _ _ => simp only [cls] at h; split at h <;> cases h
  | convert s d x => simp only [cls] at h; split at h <;> first | (cases h; done) | (split at h <;> cases h)
  | call c =>
    simp only [cls, clsCall] at h
    split at h
    · split at h
      · split at h <;> cases h
      · cases h
    all_goals cases h
  | _ => cases h

/-! ### Objects without a block; an object whose block comes late -/
def CM.lift (C : CM) (n : Nat) : CM := ⟨C.f, n⟩
theorem CM.le_lift {C : CM} {n : Nat} (h : C.nx ≤ n) : C.le (C.lift n) := ⟨fun _ _ _ h => h, h, fun _ v L h => .inl ⟨v, L, h⟩⟩
inductive Ups : Heap → Heap → Prop where
  | refl (H : Heap) : Ups H H
  | push {H H' : Heap} {ob : AObj} (hl : True) (hf : ObFree ob) (h : Ups (H.push ob) H') : Ups H H'
theorem Ups.next {H H' : Heap} (h : Ups H H') : H.next ≤ H'.next := by
  induction h with
  | refl => exact Nat.le_refl _
  | push _ _ _ ih => exact Nat.le_trans (Nat.le_succ _) ih
theorem Rel.up {w0 : World} {C : CM} {H : Heap} {w : World} (h : Rel w0 C H w) (_ : True) {ob : AObj} (hf : ObFree ob) : Rel w0 (C.lift (H.next + 1)) (H.push ob) w := by
  have hle : C.le (C.lift (H.next + 1)) := CM.le_lift (by rw [h.nx]; exact Nat.le_succ _)
  refine ⟨rfl, h.low, fun o v L hL => ?_, h.lt, h.excl, ?_, ?_⟩
  · show o < H.next + 1
    have := h.fresh o v L hL; omega
  · intro o ob' ho hg
    by_cases e : o = H.next
    · subst e; rw [Heap.get_push_same] at hg; cases hg; exact hf _ _ _ _ (fun v => h.next_none v)
    · have ho' : o < H.next := by have : o < H.next + 1 := ho; omega
      rw [Heap.get_push_ne _ _ ho'] at hg
      exact (h.obj _ _ ho' hg).frame hle (fun v L hL => hL) (fun v L hL => rfl)
  · intro o c len ver ro ho hg v L hL
    by_cases e : o = H.next
    · subst e; have := h.fresh _ _ _ hL; omega
    · have ho' : o < H.next := by have : o < H.next + 1 := ho; omega
      rw [Heap.get_push_ne _ _ ho'] at hg
      exact h.top _ _ _ _ _ ho' hg _ _ hL
theorem Rel.ups {w0 : World} {H H' : Heap} {w : World} (hu : Ups H H') : ∀ {C : CM}, Rel w0 C H w → Rel w0 (C.lift H'.next) H' w := by
  induction hu with
  | refl H => intro C h; rw [← h.nx]; exact h
  | push hl hf _ ih =>
    intro C h
    have h1 := h.up hl hf
    have h2 := ih h1
    exact h2

theorem eqCells_spec {c c' : Tr AV} {len : Nat} (h : eqCells c c' len = true) : ∀ j, j < len → getP (pathOf j) c = getP (pathOf j) c' := by
  unfold eqCells at h
  split at h
  · rename_i l l' h1 h2
    obtain ⟨k1, k2⟩ := getCells_spec h1
    obtain ⟨k3, k4⟩ := getCells_spec h2
    have he : l = l' := by
      have : ∀ (x y : List AV), eqL (eqAV 30) x y = true → x = y := by
        intro x
        induction x with
        | nil => intro y hy; cases y with
          | nil => rfl
          | cons _ _ => cases hy
        | cons c x ih =>
          intro y hy
          cases y with
          | nil => cases hy
          | cons d y =>
            simp only [eqL] at hy
            split at hy
            · rename_i hc; rw [eqAV_spec 30 c d hc, ih y hy]
            · cases hy
      exact this _ _ h
    intro j hj
    have e1 := k2 j hj
    have e2 := k4 j hj
    rw [Nat.zero_add] at e1 e2
    rw [e1, e2, he]
  · cases h
theorem ObjR.eqObj {B : Nat} {C : CM} {w : World} {o : Nat} {a b : AObj} (h : Sv.eqObj a b = true) (k : ObjR B C w o b) : ObjR B C w o a := by
  unfold Sv.eqObj at h
  split at h
  · rename_i c len ver ro c' len' ver' ro'
    simp only [Bool.and_eq_true] at h
    obtain ⟨⟨⟨h1, h2⟩, h3⟩, h4⟩ := h
    obtain rfl := Nat.eq_of_beq_eq_true h1
    obtain rfl := Nat.eq_of_beq_eq_true h2
    obtain rfl : ro = ro' := by simpa using h3
    intro L hL
    obtain ⟨p1, p2, p3, vs, e, lo, hi, p4, p5, p6, p7⟩ := k L hL
    exact ⟨p1, p2, p3, vs, e, lo, hi, p4, p5, p6, fun i hi => by rw [eqCells_spec h4 i hi]; exact p7 i hi⟩
  · obtain rfl := Nat.eq_of_beq_eq_true h
    exact k
  · cases h
theorem eqObj_ver {c : Tr AV} {len ver : Nat} {ro : Bool} {b : AObj} (h : Sv.eqObj (.cells c len ver ro) b = true) : ∃ c' , b = .cells c' len ver ro := by
  unfold Sv.eqObj at h
  split at h
  · rename_i c1 len1 ver1 ro1 c' len' ver' ro' e
    cases e
    simp only [Bool.and_eq_true] at h
    obtain ⟨⟨⟨h1, h2⟩, h3⟩, h4⟩ := h
    obtain rfl := Nat.eq_of_beq_eq_true h1
    obtain rfl := Nat.eq_of_beq_eq_true h2
    obtain rfl : ro = ro' := by simpa using h3
    exact ⟨c', rfl⟩
  · rename_i e; cases e
  · cases h
theorem sameB_spec {α : Type} {b : Bool} {x y : α} (hb : b = true → x = y) (h : sameB b x y = true) : x = y := by
  unfold sameB at h
  split at h
  · exact hb rfl
  · exact @of_decide_eq_true _ (Classical.propDecidable _) h
theorem sameB_or {α : Type} {b : Bool} {x y : α} (h : sameB b x y = true) : b = true ∨ x = y := by
  unfold sameB at h
  split at h
  · exact .inl rfl
  · exact .inr (@of_decide_eq_true _ (Classical.propDecidable _) h)
theorem ObjR.same {B : Nat} {C : CM} {w : World} {o : Nat} {a b : AObj} (h : sameB (Sv.eqObj a b) a b = true) (k : ObjR B C w o b) : ObjR B C w o a := by
  rcases sameB_or h with h | h
  · exact k.eqObj h
  · rw [h]; exact k

/-- The block of an object that had none. -/
theorem Rel.bind {w0 : World} {C : CM} {H : Heap} {w : World} (h : Rel w0 C H w) {id n sz : Nat} (hid : id < H.next) (hn : ∀ v, C id v = none) {ob : AObj} (hg : H.get id = some ob) (blk : Obj)
    (hob : ObjR w0.heap.size (C.ext id 0 ⟨w.heap.size, 0, n, sz⟩) (w.alloc blk) id ob) : Rel w0 (C.ext id 0 ⟨w.heap.size, 0, n, sz⟩) H (w.alloc blk) ∧ C.keep (C.ext id 0 ⟨w.heap.size, 0, n, sz⟩) := by
  have hk : C.keep (C.ext id 0 ⟨w.heap.size, 0, n, sz⟩) := fun o' v' L' h' => by
    by_cases e : o' = id ∧ v' = 0
    · obtain ⟨rfl, rfl⟩ := e; rw [hn] at h'; cases h'
    · rw [CM.ext_ne C _ e]; exact h'
  refine ⟨⟨by show max C.nx (id + 1) = H.next; rw [h.nx]; omega, h.low.alloc h.low.size blk, ?_, ?_, ?_, ?_, ?_⟩, hk⟩
  · intro o v L hL
    by_cases e : o = id ∧ v = 0
    · omega
    · rw [CM.ext_ne _ _ e] at hL; exact h.fresh _ _ _ hL
  · intro o v L hL
    rw [World.size_alloc]
    by_cases e : o = id ∧ v = 0
    · obtain ⟨rfl, rfl⟩ := e; rw [CM.ext_same] at hL; cases hL; exact Nat.lt_succ_self _
    · rw [CM.ext_ne _ _ e] at hL; have := h.lt _ _ _ hL; omega
  · intro o v L o' v' L' hL hL' hb hB
    by_cases e : o = id ∧ v = 0 <;> by_cases e' : o' = id ∧ v' = 0
    · omega
    · obtain ⟨rfl, rfl⟩ := e
      rw [CM.ext_same] at hL; cases hL
      rw [CM.ext_ne _ _ e'] at hL'; have := h.lt _ _ _ hL'; dsimp at hb; omega
    · obtain ⟨rfl, rfl⟩ := e'
      rw [CM.ext_same] at hL'; cases hL'
      rw [CM.ext_ne _ _ e] at hL; have := h.lt _ _ _ hL; dsimp at hb; omega
    · rw [CM.ext_ne _ _ e] at hL; rw [CM.ext_ne _ _ e'] at hL'; exact h.excl _ _ _ _ _ _ hL hL' hb hB
  · intro o ob' ho hg'
    by_cases e : o = id
    · subst e; rw [hg] at hg'; cases hg'; exact hob
    · have hob' := h.obj _ _ ho hg'
      refine hob'.frame' hk (fun v L hL => ?_) (fun v L hL => heap_alloc_lt _ _ (h.lt _ _ _ hL))
      rwa [CM.ext_ne _ _ (by omega)] at hL
  · intro o c len ver ro ho hg' v L hL
    by_cases e : o = id ∧ v = 0
    · omega
    · rw [CM.ext_ne _ _ e] at hL
      exact h.top _ _ _ _ _ ho hg' _ _ hL
end Go.Sv
