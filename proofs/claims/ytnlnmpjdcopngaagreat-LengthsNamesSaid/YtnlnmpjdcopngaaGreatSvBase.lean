/- The evaluator's values and heap against the model's: what stands for what. -/
import Derived.Test.YtnlnmpjdcopngaaGreatSvDefs
import Derived.Below
namespace Go.Sv
open Go.RowKit (Below)

/-! ### Tries -/
section tries
variable {α : Type}
theorem getP_e (p : List Bool) : getP p (Tr.e : Tr α) = none := by
  cases p with
  | nil => rfl
  | cons b p => cases b <;> rfl
theorem getP_nil (v : Option α) (l r : Tr α) : getP [] (.n v l r) = v := rfl
theorem getP_t (p : List Bool) (v : Option α) (l r : Tr α) : getP (true :: p) (.n v l r) = getP p l := rfl
theorem getP_f (p : List Bool) (v : Option α) (l r : Tr α) : getP (false :: p) (.n v l r) = getP p r := rfl
theorem setP_nil_e (a : α) : setP a [] .e = .n (some a) .e .e := rfl
theorem setP_nil_n (a : α) (v : Option α) (l r : Tr α) : setP a [] (.n v l r) = .n (some a) l r := rfl
theorem setP_t_e (a : α) (p : List Bool) : setP a (true :: p) .e = .n none (setP a p .e) .e := rfl
theorem setP_f_e (a : α) (p : List Bool) : setP a (false :: p) .e = .n none .e (setP a p .e) := rfl
theorem setP_t_n (a : α) (p : List Bool) (v : Option α) (l r : Tr α) : setP a (true :: p) (.n v l r) = .n v (setP a p l) r := rfl
theorem setP_f_n (a : α) (p : List Bool) (v : Option α) (l r : Tr α) : setP a (false :: p) (.n v l r) = .n v l (setP a p r) := rfl

theorem getP_setP_same (a : α) : ∀ (p : List Bool) (t : Tr α), getP p (setP a p t) = some a
  | [], .e => rfl
  | [], .n _ _ _ => rfl
  | true :: p, .e => by rw [setP_t_e, getP_t]; exact getP_setP_same a p _
  | false :: p, .e => by rw [setP_f_e, getP_f]; exact getP_setP_same a p _
  | true :: p, .n v l r => by rw [setP_t_n, getP_t]; exact getP_setP_same a p _
  | false :: p, .n v l r => by rw [setP_f_n, getP_f]; exact getP_setP_same a p _

theorem getP_setP_ne (a : α) : ∀ (p q : List Bool) (t : Tr α), p ≠ q → getP q (setP a p t) = getP q t
  | [], [], _, h => absurd rfl h
  | [], true :: q, .e, _ => by rw [setP_nil_e, getP_t, getP_e, getP_e]
  | [], false :: q, .e, _ => by rw [setP_nil_e, getP_f, getP_e, getP_e]
  | [], true :: q, .n _ _ _, _ => rfl
  | [], false :: q, .n _ _ _, _ => rfl
  | true :: p, [], .e, _ => rfl
  | false :: p, [], .e, _ => rfl
  | true :: p, [], .n _ _ _, _ => rfl
  | false :: p, [], .n _ _ _, _ => rfl
  | true :: p, true :: q, .e, h => by rw [setP_t_e, getP_t, getP_setP_ne a p q _ (fun e => h (by rw [e])), getP_e, getP_e]
  | true :: p, false :: q, .e, _ => by rw [setP_t_e, getP_f, getP_e, getP_e]
  | false :: p, true :: q, .e, _ => by rw [setP_f_e, getP_t, getP_e, getP_e]
  | false :: p, false :: q, .e, h => by rw [setP_f_e, getP_f, getP_setP_ne a p q _ (fun e => h (by rw [e])), getP_e, getP_e]
  | true :: p, true :: q, .n _ l _, h => by rw [setP_t_n, getP_t, getP_t]; exact getP_setP_ne a p q l (fun e => h (by rw [e]))
  | true :: p, false :: q, .n _ _ _, _ => rfl
  | false :: p, true :: q, .n _ _ _, _ => rfl
  | false :: p, false :: q, .n _ _ r, h => by rw [setP_f_n, getP_f, getP_f]; exact getP_setP_ne a p q r (fun e => h (by rw [e]))

theorem pathF_inj : ∀ (f g j k : Nat), j < f → k < g → pathF f j = pathF g k → j = k
  | 0, _, j, k, hj, _, _ => by omega
  | _, 0, j, k, _, hk, _ => by omega
  | f + 1, g + 1, 0, 0, _, _, _ => rfl
  | f + 1, g + 1, 0, k + 1, _, _, h => by simp [pathF] at h
  | f + 1, g + 1, j + 1, 0, _, _, h => by simp [pathF] at h
  | f + 1, g + 1, j + 1, k + 1, hj, hk, h => by
    simp only [pathF, List.cons.injEq] at h
    obtain ⟨h1, h2⟩ := h
    have e1 : Nat.div j 2 = j / 2 := rfl
    have e2 : Nat.div k 2 = k / 2 := rfl
    have e3 : Nat.mod j 2 = j % 2 := rfl
    have e4 : Nat.mod k 2 = k % 2 := rfl
    rw [e1, e2] at h2
    rw [e3, e4] at h1
    have := pathF_inj f g (j / 2) (k / 2) (by omega) (by omega) h2
    have q : ∀ x : Nat, Nat.beq x 0 = true ↔ x = 0 := fun x => by cases x <;> simp [Nat.beq]
    have h3 : (j % 2 = 0 ↔ k % 2 = 0) := by
      rw [← q, ← q, h1]
    omega
theorem pathOf_inj {j k : Nat} (h : pathOf j = pathOf k) : j = k :=
  pathF_inj _ _ j k (Nat.lt_succ_self _) (Nat.lt_succ_self _) h
theorem get_set {j k : Nat} (a : α) (t : Tr α) :
    getP (pathOf k) (setP a (pathOf j) t) = if k = j then some a else getP (pathOf k) t := by
  by_cases h : k = j
  · subst h; rw [if_pos rfl]; exact getP_setP_same a _ t
  · rw [if_neg h]; exact getP_setP_ne a _ _ t (fun e => h (pathOf_inj e.symm))
theorem get_set_same (j : Nat) (a : α) (t : Tr α) : getP (pathOf j) (setP a (pathOf j) t) = some a := getP_setP_same a _ t
theorem get_set_ne {j k : Nat} (h : k ≠ j) (a : α) (t : Tr α) :
    getP (pathOf k) (setP a (pathOf j) t) = getP (pathOf k) t := by rw [get_set, if_neg h]

theorem get_ofList : ∀ (l : List α) (i : Nat) (t : Tr α) (k : Nat),
    getP (pathOf k) (ofListFrom l i t) = if i ≤ k ∧ k < i + l.length then l[k - i]? else getP (pathOf k) t
  | [], i, t, k => by simp only [ofListFrom, List.length_nil]; rw [if_neg (by omega)]
  | a :: l, i, t, k => by
    simp only [List.length_cons]
    rw [ofListFrom, get_ofList l (i + 1) _ k]
    by_cases h1 : i + 1 ≤ k ∧ k < i + 1 + l.length
    · rw [if_pos h1, if_pos (by omega)]
      have : k - i = (k - (i + 1)) + 1 := by omega
      rw [this, List.getElem?_cons_succ]
    · rw [if_neg h1, get_set]
      by_cases h2 : k = i
      · subst h2; rw [if_pos rfl, if_pos (by omega)]; simp
      · rw [if_neg h2, if_neg (by omega)]
end tries

theorem getCells_spec {c : Tr AV} : ∀ {n i : Nat} {l : List AV}, getCells c i n = some l → l.length = n ∧ ∀ j, j < n → getP (pathOf (i + j)) c = l[j]?
  | 0, i, l, h => by
    simp only [getCells, Option.some.injEq] at h
    subst h; exact ⟨rfl, fun j hj => by omega⟩
  | n + 1, i, l, h => by
    simp only [getCells] at h
    split at h
    · cases h
    · rename_i a ha
      split at h
      · cases h
      · rename_i r hr
        cases h
        obtain ⟨h1, h2⟩ := getCells_spec hr
        refine ⟨by simp [h1], fun j hj => ?_⟩
        cases j with
        | zero => simpa using ha
        | succ j => have := h2 j (by omega); rw [List.getElem?_cons_succ, ← this]; congr 2; omega

/-! ### What stands for what -/
/-- Where an object's version lies: block, first cell, how many cells are known, where its room ends. -/
structure Loc where
  b : Nat
  d : Nat
  n : Nat
  sz : Nat
structure CM where
  f : Nat → Nat → Option Loc
  nx : Nat
instance : CoeFun CM (fun _ => Nat → Nat → Option Loc) := ⟨CM.f⟩
def CM.keep (C C' : CM) : Prop := ∀ o v L, C o v = some L → C' o v = some L
/-- More is bound: what was bound stays; of the objects that were there and had no block none gets one. -/
structure CM.le (C C' : CM) : Prop where
  keep : C.keep C'
  nx : C.nx ≤ C'.nx
  new : ∀ o v L, C' o v = some L → (∃ v' L', C o v' = some L') ∨ C.nx ≤ o
theorem CM.le_refl (C : CM) : C.le C := ⟨fun _ _ _ h => h, Nat.le_refl _, fun _ v L h => .inl ⟨v, L, h⟩⟩
theorem CM.le_trans {A B C : CM} (h : A.le B) (k : B.le C) : A.le C := by
  refine ⟨fun o v L e => k.keep o v L (h.keep o v L e), Nat.le_trans h.nx k.nx, fun o v L e => ?_⟩
  rcases k.new o v L e with ⟨v', L', e'⟩ | e'
  · exact h.new o v' L' e'
  · exact .inr (Nat.le_trans h.nx e')

inductive FR (C : CM) : Fn → Fn → Prop where
  | same (f : Fn) (h : ∀ l, f ≠ .yield l) : FR C f f
  | yield {l : Nat} {L : Loc} (h : C l 0 = some L) : FR C (.yield l) (.yield L.b)
theorem FR.mono {C C' : CM} (h : C.keep C') {f g : Fn} : FR C f g → FR C' f g
  | .same f hf => .same f hf
  | .yield e => .yield (h _ _ _ e)

def AV.one : AV → Bool
  | .agg _ => false
  | .tup _ => false
  | _ => true

mutual
inductive VR (C : CM) : AV → Value → Prop where
  | bool (b : Bool) : VR C (.bool b) (.bool b)
  | int (k : IntKind) (n : Int) : VR C (.int k n) (.int k n)
  | str {len n : Nat} {s : ByteArray} (h1 : s.data.toList.length = len) (h2 : packL s.data.toList = n) : VR C (.str len n) (.string s)
  | nilPtr : VR C .nilPtr (.pointer none)
  | ptr {o v i : Nat} {L : Loc} (h : C o v = some L) : VR C (.ptr o v i) (.pointer (some ⟨L.b, L.d + i, none⟩))
  | nilSl : VR C .nilSl (.slice none 0 0)
  | sl {o v i len esz : Nat} {room : Option Nat} {L : Loc} {cap : Nat} (h : C o v = some L) (h1 : i + len * esz ≤ L.n) (h2 : L.d + i + cap * esz ≤ L.sz) (h3 : len ≤ cap)
      (h4 : ∀ r, room = some r → cap = r ∧ i + r * esz ≤ L.n) (h5 : room = none → L.d + i + cap * esz = L.sz) :
      VR C (.sl o v i len esz room) (.slice (some ⟨L.b, L.d + i, none⟩) len cap)
  | emp {a : Addr} {cap : Nat} : VR C .emp (.slice (some a) 0 cap)
  | nilMap : VR C .nilMap (.map none)
  | map {o : Nat} {L : Loc} (h : C o 0 = some L) : VR C (.map o) (.map (some L.b))
  | nilFn : VR C .nilFn .nilFunc
  | fn {f g : Fn} {l r : List AV} {l' r' : Array Value} (h : FR C f g) (hl : VRs C l l'.toList) (hr : VRs C r r'.toList) : VR C (.fn f l r) (.func g l' r')
  | nilIf : VR C .nilIf .nilIface
  | iface {t : TypeId} {a : AV} {v : Value} (h : VR C a v) : VR C (.iface t a) (.iface t v)
  | agg {l : List AV} {vs : Array Value} (h : VRs C l vs.toList) (h1 : ∀ a ∈ l, a.one = true) : VR C (.agg l) (.agg vs)
  | tup {l : List AV} {vs : Array Value} (h : VRs C l vs.toList) : VR C (.tup l) (.tuple vs)
inductive VRs (C : CM) : List AV → List Value → Prop where
  | nil : VRs C [] []
  | cons {a : AV} {v : Value} {l : List AV} {r : List Value} (h : VR C a v) (hs : VRs C l r) : VRs C (a :: l) (v :: r)
end

mutual
theorem VR.mono' {C C' : CM} (h : C.keep C') : ∀ {a : AV} {v : Value}, VR C a v → VR C' a v
  | _, _, .bool b => .bool b
  | _, _, .int k n => .int k n
  | _, _, .str h1 h2 => .str h1 h2
  | _, _, .nilPtr => .nilPtr
  | _, _, .ptr e => .ptr (h _ _ _ e)
  | _, _, .nilSl => .nilSl
  | _, _, .sl e h1 h2 h3 h4 h5 => .sl (h _ _ _ e) h1 h2 h3 h4 h5
  | _, _, .emp => .emp
  | _, _, .nilMap => .nilMap
  | _, _, .map e => .map (h _ _ _ e)
  | _, _, .nilFn => .nilFn
  | _, _, .fn hf hl hr => .fn (hf.mono h) (VRs.mono' h hl) (VRs.mono' h hr)
  | _, _, .nilIf => .nilIf
  | _, _, .iface e => .iface (VR.mono' h e)
  | _, _, .agg e h1 => .agg (VRs.mono' h e) h1
  | _, _, .tup e => .tup (VRs.mono' h e)
theorem VRs.mono' {C C' : CM} (h : C.keep C') : ∀ {l : List AV} {r : List Value}, VRs C l r → VRs C' l r
  | _, _, .nil => .nil
  | _, _, .cons e es => .cons (VR.mono' h e) (VRs.mono' h es)
end

theorem VR.mono {C C' : CM} (h : C.le C') {a : AV} {v : Value} (k : VR C a v) : VR C' a v := k.mono' h.keep
theorem VRs.mono {C C' : CM} (h : C.le C') {a : List AV} {v : List Value} (k : VRs C a v) : VRs C' a v := k.mono' h.keep
theorem VRs.length {C : CM} : ∀ {l : List AV} {r : List Value}, VRs C l r → l.length = r.length
  | _, _, .nil => rfl
  | _, _, .cons _ es => by simp [VRs.length es]
theorem VRs.get {C : CM} : ∀ {l : List AV} {r : List Value}, VRs C l r → ∀ {i : Nat} {a : AV}, l[i]? = some a → ∃ v, r[i]? = some v ∧ VR C a v
  | _, _, .nil, i, a, h => by simp at h
  | _, _, .cons e es, 0, a, h => by simp only [List.getElem?_cons_zero, Option.some.injEq] at h; subst h; exact ⟨_, rfl, e⟩
  | _, _, .cons e es, i + 1, a, h => by simp only [List.getElem?_cons_succ] at h ⊢; exact VRs.get es h
theorem VRs.mk {C : CM} : ∀ {l : List AV} {r : List Value}, l.length = r.length → (∀ (i : Nat) (a : AV), l[i]? = some a → ∃ v, r[i]? = some v ∧ VR C a v) → VRs C l r
  | [], [], _, _ => .nil
  | [], _ :: _, h, _ => by simp at h
  | _ :: _, [], h, _ => by simp at h
  | a :: l, v :: r, h, k => by
    obtain ⟨v', hv, hr⟩ := k 0 a rfl
    simp only [List.getElem?_cons_zero, Option.some.injEq] at hv
    subst hv
    exact .cons hr (VRs.mk (by simpa using h) (fun i a hi => by have := k (i + 1) a (by simpa using hi); simpa using this))
theorem VRs.append {C : CM} : ∀ {l : List AV} {r : List Value} {l' : List AV} {r' : List Value}, VRs C l r → VRs C l' r' → VRs C (l ++ l') (r ++ r')
  | _, _, _, _, .nil, k => k
  | _, _, _, _, .cons e es, k => .cons e (VRs.append es k)
theorem VRs.drop {C : CM} : ∀ {l : List AV} {r : List Value}, VRs C l r → ∀ n, VRs C (l.drop n) (r.drop n)
  | _, _, h, 0 => h
  | _, _, .nil, _ + 1 => .nil
  | _, _, .cons _ es, n + 1 => VRs.drop es n
theorem VRs.take {C : CM} : ∀ {l : List AV} {r : List Value}, VRs C l r → ∀ n, VRs C (l.take n) (r.take n)
  | _, _, _, 0 => .nil
  | _, _, .nil, _ + 1 => .nil
  | _, _, .cons e es, n + 1 => .cons e (VRs.take es n)

theorem VR.one {C : CM} {a : AV} {v : Value} (h : VR C a v) : v.oneCell' = a.one := by cases h <;> rfl

theorem absS_spec {C : CM} {v : Value} {a : AV} (h : absS v = some a) : VR C a v ∧ a.one = true := by
  unfold absS at h
  split at h <;> first
    | (cases h; done)
    | (cases h; exact ⟨by constructor <;> rfl, rfl⟩)
    | (cases h; exact ⟨by constructor, rfl⟩)
theorem absL_spec {C : CM} : ∀ {l : List Value} {r : List AV}, absL l = some r → VRs C r l ∧ ∀ a ∈ r, a.one = true
  | [], r, h => by cases h; exact ⟨.nil, by simp⟩
  | v :: l, r, h => by
    simp only [absL] at h
    split at h
    · cases h
    · rename_i a ha
      split at h
      · cases h
      · rename_i r' hr
        cases h
        obtain ⟨h1, h2⟩ := absL_spec (C := C) hr
        obtain ⟨h3, h4⟩ := absS_spec (C := C) ha
        exact ⟨.cons h3 h1, by simpa using ⟨h4, h2⟩⟩
theorem absV_spec {C : CM} {v : Value} {a : AV} (h : absV v = some a) : VR C a v := by
  unfold absV at h
  split at h
  · rename_i cs
    cases hl : absL cs.toList with
    | none => simp [hl] at h
    | some r =>
      simp only [hl, Option.map_some, Option.some.injEq] at h
      subst h
      obtain ⟨h1, h2⟩ := absL_spec (C := C) hl
      exact .agg h1 h2
  · rename_i vs
    split at h
    · rename_i h0
      cases h
      have : vs = #[] := Array.eq_empty_of_size_eq_zero h0
      subst this
      exact .tup .nil
    · cases h
  · exact (absS_spec h).1

/-- Cells of a value's. -/
theorem VR.cells {C : CM} {a : AV} {v : Value} (h : VR C a v) {l : List AV} (hl : a.cells = some l) : VRs C l v.cells.toList ∧ ∀ x ∈ l, x.one = true := by
  cases h with
  | agg h h1 => simp only [AV.cells, Option.some.injEq] at hl; subst hl; exact ⟨by simpa [Value.cells] using h, h1⟩
  | tup h => simp [AV.cells] at hl
  | _ => simp only [AV.cells, Option.some.injEq] at hl; subst hl; exact ⟨by simp only [Value.cells]; exact .cons (by constructor <;> assumption) .nil, by simp [AV.one]⟩

/-! ### The heap -/
/-- Cells of a trie's against a row's. -/
def CellsR (C : CM) (c : Tr AV) (len : Nat) (vs : Array Value) (d : Nat) : Prop :=
  ∀ i, i < len → ∃ a, getP (pathOf i) c = some a ∧ a.one = true ∧ ∃ v, vs[d + i]? = some v ∧ VR C a v
inductive MR (C : CM) : List (AV × AV × Nat) → List MapEntry → Prop where
  | nil : MR C [] []
  | cons {k v : AV} {b : Nat} {e : MapEntry} {l : List (AV × AV × Nat)} {r : List MapEntry} (hk : VR C k e.key) (hv : VR C v e.val) (hb : e.born = b) (h : MR C l r) : MR C ((k, v, b) :: l) (e :: r)

def OVR (C : CM) (a : Option AV) (v : Value) : Prop := match a with
  | some a => VR C a v
  | none => v = undef
/-- Temporaries. -/
def ER (n : Nat) (C : CM) (E : Tr AV) (tm : Array Value) : Prop :=
  tm.size = n ∧ n ≤ lim ∧ ∀ t, t ≤ lim → OVR C (getP (pathOf t) E) (tm.getD t undef)

def ObjR (B : Nat) (C : CM) (w : World) (o : Nat) : AObj → Prop
  | .cells c len ver ro => ∀ L, C o ver = some L → L.n = len ∧ (ro = false → B ≤ L.b) ∧ L.d + len ≤ L.sz ∧ ∃ vs e lo hi, w.heap[L.b]? = some (.cells vs e (lo, hi)) ∧ L.sz ≤ vs.size ∧
      (∀ i, L.d ≤ i → i < L.sz → ¬ (lo ≤ i ∧ i < hi)) ∧ CellsR C c len vs L.d
  | .map es ck => ∀ L, C o 0 = some L → B ≤ L.b ∧ ∃ ces : Array MapEntry, w.heap[L.b]? = some (.map ces ck) ∧ MR C es ces.toList
  | .iter len n pos => ∀ L, C o 0 = some L → B ≤ L.b ∧ L.d = 0 ∧ ∃ s : ByteArray, w.heap[L.b]? = some (.stringIter s pos) ∧ s.data.toList.length = len ∧ packL s.data.toList = n
  | .loop st pend f n E ps a b d => ∀ L, C o 0 = some L → B ≤ L.b ∧ ∃ tm Ld, C d 0 = some Ld ∧ w.heap[L.b]? = some (.loop { state := st, pending := pend, fn := f, tmps := tm, params := ps, assign := a, body := b, defers := Ld.b }) ∧ ER n C E tm
  | .defd op => ∀ L, C o 0 = some L → B ≤ L.b ∧ w.heap[L.b]? = some (.deferred (if op then some [] else none))

structure Rel (w0 : World) (C : CM) (H : Heap) (w : World) : Prop where
  nx : C.nx = H.next
  low : Below w0.heap.size w0 w
  fresh : ∀ o v L, C o v = some L → o < H.next
  lt : ∀ o v L, C o v = some L → L.b < w.heap.size
  excl : ∀ o v L o' v' L', C o v = some L → C o' v' = some L' → L.b = L'.b → w0.heap.size ≤ L.b → o = o'
  obj : ∀ o ob, o < H.next → H.get o = some ob → ObjR w0.heap.size C w o ob
  top : ∀ o c len ver ro, o < H.next → H.get o = some (.cells c len ver ro) → ∀ v L, C o v = some L → v ≤ ver

end Go.Sv
