/- What stands for what stays so: a new object, an object that is turned. -/
import Derived.Test.YtlfffpmdofacjaaLgDefs
namespace Go.Sv

/-! ### Cells -/
theorem getCells_mk {t : Tr AV} : ∀ {n i : Nat} {l : List AV}, l.length = n → (∀ j, j < n → getP (pathOf (i + j)) t = l[j]?) → getCells t i n = some l
  | 0, i, l, h, _ => by
    have : l = [] := List.eq_nil_of_length_eq_zero h
    subst this; rfl
  | n + 1, i, [], h, _ => by simp at h
  | n + 1, i, a :: l, h, k => by
    have h0 := k 0 (by omega)
    simp only [Nat.add_zero, List.getElem?_cons_zero] at h0
    have ih := getCells_mk (t := t) (n := n) (i := i + 1) (l := l) (by simpa using h) (fun j hj => by
      have := k (j + 1) (by omega)
      rw [List.getElem?_cons_succ] at this
      rw [← this, show i + 1 + j = i + (j + 1) from by omega])
    simp only [getCells, h0, ih]
theorem getCells_sub {t : Tr AV} {N i n : Nat} {l : List AV} (h : getCells t 0 N = some l) (hle : i + n ≤ N) : getCells t i n = some ((l.drop i).take n) := by
  obtain ⟨h1, h2⟩ := getCells_spec h
  refine getCells_mk (by simp; omega) (fun j hj => ?_)
  have := h2 (i + j) (by omega)
  rw [Nat.zero_add] at this
  rw [this, List.getElem?_take_of_lt hj, List.getElem?_drop]
theorem getCells_new (l : List AV) : getCells (ofListFrom l 0 .e) 0 l.length = some l :=
  getCells_mk rfl (fun j hj => by rw [get_ofList, if_pos (by omega)]; simp)
/-- Cells laid over cells. -/
def layAV (l : List AV) (i : Nat) (r : List AV) : List AV := l.take i ++ r ++ l.drop (i + r.length)
theorem layAV_length {l r : List AV} {i : Nat} (h : i + r.length ≤ l.length) : (layAV l i r).length = l.length := by
  unfold layAV; simp; omega
theorem layAV_get {l r : List AV} {i : Nat} (h : i + r.length ≤ l.length) (j : Nat) : (layAV l i r)[j]? = if i ≤ j ∧ j < i + r.length then r[j - i]? else l[j]? := by
  have hi : (l.take i).length = i := by simp; omega
  unfold layAV
  by_cases h1 : j < i
  · rw [if_neg (by omega), List.append_assoc, List.getElem?_append_left (by omega), List.getElem?_take_of_lt h1]
  · by_cases h2 : j < i + r.length
    · rw [if_pos (by omega), List.getElem?_append_left (by simp; omega), List.getElem?_append_right (by omega), hi]
    · rw [if_neg (by omega), List.getElem?_append_right (by simp; omega), List.getElem?_drop]
      congr 1
      simp
      omega
theorem getCells_lay {t : Tr AV} {N i : Nat} {l r : List AV} (h : getCells t 0 N = some l) (hle : i + r.length ≤ N) : getCells (ofListFrom r i t) 0 N = some (layAV l i r) := by
  obtain ⟨h1, h2⟩ := getCells_spec h
  refine getCells_mk (by rw [layAV_length (by omega)]; exact h1) (fun j hj => ?_)
  have := h2 j hj
  rw [Nat.zero_add] at this ⊢
  rw [get_ofList, layAV_get (by omega), this]
theorem getCells_app {t : Tr AV} {N : Nat} {l r : List AV} (h : getCells t 0 N = some l) : getCells (ofListFrom r N t) 0 (N + r.length) = some (l ++ r) := by
  obtain ⟨h1, h2⟩ := getCells_spec h
  refine getCells_mk (by simp; omega) (fun j hj => ?_)
  rw [Nat.zero_add, get_ofList]
  by_cases hj' : N ≤ j
  · rw [if_pos ⟨hj', by omega⟩, List.getElem?_append_right (by omega), h1]
  · rw [if_neg (by omega), List.getElem?_append_left (by omega)]
    have := h2 j (by omega)
    rwa [Nat.zero_add] at this

theorem readAt_of {H : Heap} {o v i n N clen : Nat} {t : Tr AV} {ro : Bool} {l : List AV} (hg : H.get o = some (.cells t clen v ro)) (hc : getCells t 0 N = some l) (hN : N ≤ clen) (hle : i + n ≤ N) : readAt H o v i n = some ((l.drop i).take n) := by
  unfold readAt
  rw [hg]
  have hb : Nat.ble (Nat.add i n) clen = true := Nat.ble_eq_true_of_le (by show i + n ≤ clen; omega)
  simp only [Nat.beq_refl, hb]
  exact getCells_sub hc hle
theorem readAt_congr {H H' : Heap} {o : Nat} (h : H'.get o = H.get o) (v i n : Nat) : readAt H' o v i n = readAt H o v i n := by
  unfold readAt; rw [h]
/-- A part of what stands there. -/
theorem readAt_sub {H : Heap} {o v i n j m : Nat} {l : List AV} (h : readAt H o v i n = some l) (hle : j + m ≤ n) : readAt H o v (i + j) m = some ((l.drop j).take m) := by
  unfold readAt at h ⊢
  split at h
  · rename_i t clen ver ro hg
    split at h
    · rename_i hv
      split at h
      · rename_i hb
        have hb' : i + n ≤ clen := Nat.le_of_ble_eq_true hb
        have hb2 : Nat.ble (Nat.add (i + j) m) clen = true := Nat.ble_eq_true_of_le (by show i + j + m ≤ clen; omega)
        simp only [hb2]
        obtain ⟨h1, h2⟩ := getCells_spec h
        refine getCells_mk (by simp; omega) (fun q hq => ?_)
        have := h2 (j + q) (by omega)
        rw [Nat.add_assoc, this, List.getElem?_take_of_lt hq, List.getElem?_drop]
      · cases h
    · cases h
  · cases h
theorem readAt_length {H : Heap} {o v i n : Nat} {l : List AV} (h : readAt H o v i n = some l) : l.length = n := by
  unfold readAt at h
  split at h
  · split at h
    · split at h
      · exact (getCells_spec h).1
      · cases h
    · cases h
  · cases h

/-! ### Lists -/
section lists
variable {c : Cx}
theorem ARs.length : ∀ {l : List LV} {r : List AV}, ARs c l r → l.length = r.length
  | _, _, .nil => rfl
  | _, _, .cons _ es => by simp [ARs.length es]
theorem ARs.get : ∀ {l : List LV} {r : List AV}, ARs c l r → ∀ {i : Nat} {v : LV}, l[i]? = some v → ∃ a, r[i]? = some a ∧ AR c v a
  | _, _, .nil, i, v, h => by simp at h
  | _, _, .cons e es, 0, v, h => by simp only [List.getElem?_cons_zero, Option.some.injEq] at h; subst h; exact ⟨_, rfl, e⟩
  | _, _, .cons e es, i + 1, v, h => by simp only [List.getElem?_cons_succ] at h ⊢; exact ARs.get es h
theorem ARs.append : ∀ {l : List LV} {r : List AV} {l' : List LV} {r' : List AV}, ARs c l r → ARs c l' r' → ARs c (l ++ l') (r ++ r')
  | _, _, _, _, .nil, k => k
  | _, _, _, _, .cons e es, k => .cons e (ARs.append es k)
theorem ARs.drop : ∀ {l : List LV} {r : List AV}, ARs c l r → ∀ n, ARs c (l.drop n) (r.drop n)
  | _, _, h, 0 => h
  | _, _, .nil, _ + 1 => .nil
  | _, _, .cons _ es, n + 1 => ARs.drop es n
theorem ARs.take : ∀ {l : List LV} {r : List AV}, ARs c l r → ∀ n, ARs c (l.take n) (r.take n)
  | _, _, _, 0 => .nil
  | _, _, .nil, _ + 1 => .nil
  | _, _, .cons e es, n + 1 => .cons e (ARs.take es n)
theorem ARs.lay {l r : List LV} {l' r' : List AV} (h : ARs c l l') (k : ARs c r r') (i : Nat) : ARs c (layLV l i r) (layAV l' i r') := by
  unfold layLV layAV
  rw [k.length]
  exact ((h.take i).append k).append (h.drop _)
theorem layLV_length {l r : List LV} {i : Nat} (h : i + r.length ≤ l.length) : (layLV l i r).length = l.length := by
  unfold layLV; simp; omega
theorem ARs.rep {z : List LV} {z' : List AV} (h : ARs c z z') : ∀ n, ARs c (repL z n) (repeatL z' n)
  | 0 => .nil
  | n + 1 => h.append (ARs.rep h n)
theorem repL_length (z : List LV) : ∀ n, (repL z n).length = n * z.length
  | 0 => by simp [repL]
  | n + 1 => by simp [repL, repL_length z n, Nat.add_mul]; omega
end lists

/-! ### Values that stand in code -/
theorem scal_AR (c : Cx) {v : LV} (h : v.scal = true) : AR c v (toA v) := by
  cases v <;> first | (cases h; done) | (unfold toA; constructor)
theorem scals_AR (c : Cx) : ∀ {l : List LV}, l.all LV.scal = true → ARs c l (toAs l)
  | [], _ => by unfold toAs; exact .nil
  | v :: l, h => by
    simp only [List.all_cons, Bool.and_eq_true] at h
    unfold toAs
    exact .cons (scal_AR c h.1) (scals_AR c h.2)
theorem cst_AR (c : Cx) {v : LV} (h : v.cst = true) : AR c v (toA v) := by
  unfold LV.cst at h
  split at h
  · unfold toA; exact .fn .nil .nil
  · unfold toA; exact .agg (scals_AR c h)
  · unfold toA toAs; exact .tup .nil
  · exact scal_AR c h

theorem AR.cells {c : Cx} {v : LV} {a : AV} (h : AR c v a) {l : List LV} (hl : v.cells = some l) : ∃ l', a.cells = some l' ∧ ARs c l l' := by
  cases v with
  | any => cases hl
  | tup _ => cases hl
  | agg l0 => cases hl; cases h with | agg h => exact ⟨_, rfl, h⟩
  | dy p k =>
    simp only [LV.cells, Option.some.injEq] at hl
    subst hl
    have h0 := h
    refine ⟨[a], ?_, .cons h0 .nil⟩
    cases h with | dy _ _ _ hs => cases a <;> first | rfl | cases hs
  | vw p k lo len =>
    simp only [LV.cells, Option.some.injEq] at hl
    subst hl
    have h0 := h
    refine ⟨[a], ?_, .cons h0 .nil⟩
    cases h with | vw _ _ _ hs => cases a <;> first | rfl | cases hs
  | _ =>
    simp only [LV.cells, Option.some.injEq] at hl
    subst hl
    have h0 := h
    refine ⟨[a], ?_, .cons h0 .nil⟩
    cases h <;> rfl

/-! ### What was known stays known -/
theorem CxLe.refl (c : Cx) : CxLe c c := ⟨fun _ k h e => ⟨k, h, e, Nat.le_refl _, fun _ => rfl, fun _ => rfl⟩, fun _ h => ⟨h, rfl⟩⟩
theorem CxLe.trans {a b c : Cx} (h : CxLe a b) (k : CxLe b c) : CxLe a c := by
  refine ⟨fun p v x e => ?_, fun o e => ?_⟩
  · obtain ⟨v1, x1, e1, l1, s1, f1⟩ := h.hd p v x e
    obtain ⟨v2, x2, e2, l2, s2, f2⟩ := k.hd p v1 x1 e1
    refine ⟨v2, x2, e2, Nat.le_trans l1 l2, fun q => ?_, fun q => ?_⟩
    · have q1 : v = v1 := by omega
      have q2 : v1 = v2 := by omega
      rw [s1 q1, s2 q2]
    · have q1 := f1 q
      have := s1 q1
      subst this
      rw [q1, f2 q]
  · obtain ⟨h1, h2⟩ := h.fz o e
    obtain ⟨h3, h4⟩ := k.fz o h1
    exact ⟨h3, h4.trans h2⟩
theorem CxLe.fix {c c' : Cx} (h : CxLe c c') {p k : Nat} {x : AV} (e : c.hd[p]? = some (k, x)) (hf : fixd x = true) : c'.hd[p]? = some (k, x) := by
  obtain ⟨k', x', e', _, s, f⟩ := h.hd p k x e
  have := f hf
  subst this
  rw [s rfl]; exact e'

mutual
theorem AR.mono {c c' : Cx} (h : CxLe c c') : ∀ {v : LV} {a : AV}, AR c v a → AR c' v a
  | _, _, .any a => .any a
  | _, _, .bool b => .bool b
  | _, _, .u x => .u x
  | _, _, .b x => .b x
  | _, _, .i n => .i n
  | _, _, .int k n => .int k n
  | _, _, .str l => .str l
  | _, _, .nilPtr => .nilPtr
  | _, _, .ptr e => .ptr (h.fix e rfl)
  | _, _, .dptr hp hk ha => by
    obtain ⟨k2, h2, e2, l2, s2, _⟩ := h.hd _ _ _ hp
    refine .dptr e2 (Nat.le_trans hk l2) (fun q => ?_)
    have q1 := ha (by omega)
    rw [← s2 (by omega)]
    exact q1
  | _, _, .cptr hf hr hl => .cptr (h.fz _ hf).1 (by rw [readAt_congr (h.fz _ hf).2]; exact hr) (ARs.mono h hl)
  | _, _, .nilSl => .nilSl
  | _, _, .dy hp hk ha hs => by
    obtain ⟨k2, h2, e2, l2, s2, _⟩ := h.hd _ _ _ hp
    refine .dy e2 (Nat.le_trans hk l2) (fun q => ?_) hs
    have q1 := ha (by omega)
    rw [← s2 (by omega)]
    exact q1
  | _, _, .vw hp hk ha hs => by
    obtain ⟨k2, h2, e2, l2, s2, _⟩ := h.hd _ _ _ hp
    refine .vw e2 (Nat.le_trans hk l2) (fun q => ?_) hs
    have q1 := ha (by omega)
    rw [← s2 (by omega)]
    exact q1
  | _, _, .lst hf hrm hlen hr hl => .lst (h.fz _ hf).1 hrm hlen (by rw [readAt_congr (h.fz _ hf).2]; exact hr) (ARs.mono h hl)
  | _, _, .lstNil => .lstNil
  | _, _, .lstEmp => .lstEmp
  | _, _, .nilMap => .nilMap
  | _, _, .map e => .map (h.fix e rfl)
  | _, _, .nilFn => .nilFn
  | _, _, .fn hl hr => .fn (ARs.mono h hl) (ARs.mono h hr)
  | _, _, .yield e => .yield (h.fix e rfl)
  | _, _, .nilIf => .nilIf
  | _, _, .iface e => .iface (AR.mono h e)
  | _, _, .agg e => .agg (ARs.mono h e)
  | _, _, .tup e => .tup (ARs.mono h e)
theorem ARs.mono {c c' : Cx} (h : CxLe c c') : ∀ {l : List LV} {r : List AV}, ARs c l r → ARs c' l r
  | _, _, .nil => .nil
  | _, _, .cons e es => .cons (AR.mono h e) (ARs.mono h es)
end
theorem MRs.mono {c c' : Cx} (h : CxLe c c') : ∀ {l : List (LV × LV × Nat)} {r : List (AV × AV × Nat)}, MRs c l r → MRs c' l r
  | _, _, .nil => .nil
  | _, _, .cons hk hv hs => .cons (hk.mono h) (hv.mono h) (MRs.mono h hs)
theorem EnvL.mono {c c' : Cx} (h : CxLe c c') {ρ : LEnv} {E : Tr AV} (k : EnvL c ρ E) : EnvL c' ρ E := fun t => (k t).mono h

theorem ObR.mono {c c' : Cx} (h : CxLe c c') {k : Nat} {x : AV} {ob : LObj} (hg : ∀ o, idOf x = some o → c'.H.get o = c.H.get o) (r : ObR c k x ob) : ObR c' k x ob := by
  cases ob with
  | dead st => trivial
  | cells l st =>
    obtain ⟨r0, o, t, l', rfl, r2, r3, r4⟩ := r
    exact ⟨r0, o, t, l', rfl, by rw [hg o rfl]; exact r2, r3, r4.mono h⟩
  | dyn l len esz ver st =>
    obtain ⟨r0, r1, r2⟩ := r
    refine ⟨r0, r1, ?_⟩
    rcases r2 with r2 | ⟨o, v, room, t, clen, l', rfl, r3, r4, r5, r6, r7⟩
    · exact .inl r2
    · exact .inr ⟨o, v, room, t, clen, l', rfl, by rw [hg o rfl]; exact r3, r4, r5, r6.mono h, r7⟩
  | map es ck st =>
    obtain ⟨r0, o, es', rfl, r2, r3⟩ := r
    exact ⟨r0, o, es', rfl, by rw [hg o rfl]; exact r2, r3.mono h⟩
  | iter l pos =>
    obtain ⟨r0, o, rfl, r2⟩ := r
    exact ⟨r0, o, rfl, by rw [hg o rfl]; exact r2⟩
  | loop s pend f n ρ ps a b d =>
    obtain ⟨r0, o, od, E, rfl, r2, r3, r4⟩ := r
    exact ⟨r0, o, od, E, rfl, h.fix r2 rfl, by rw [hg o rfl]; exact r3, r4.mono h⟩
  | defd op =>
    obtain ⟨r0, o, rfl, r2⟩ := r
    exact ⟨r0, o, rfl, by rw [hg o rfl]; exact r2⟩

/-! ### Steps -/
theorem Step.refl (c : Cx) (G : LHeap) : Step c G c G := by
  refine ⟨.refl c, Nat.le_refl _, fun _ _ _ => rfl, fun _ h => .inl h, fun _ h => .inl h, fun p ob ob' e1 e2 => ?_, fun p ob ob' k h o e1 e2 _ _ _ _ => ?_⟩
  · rw [e1] at e2; cases e2
    exact Nat.le_refl _
  · rw [e1] at e2; cases e2
    exact ⟨rfl, rfl, rfl⟩
theorem Step.trans {c c1 c2 : Cx} {G G1 G2 : LHeap} (h0 : HSim c G) (h1 : HSim c1 G1) (s1 : Step c G c1 G1) (s2 : Step c1 G1 c2 G2) : Step c G c2 G2 := by
  have mid : ∀ p ob, G[p]? = some ob → ∃ ob1, G1[p]? = some ob1 := fun p ob e => by
    have hp : p < c.hd.length := by rw [h0.len]; exact (List.getElem?_eq_some_iff.1 e).1
    obtain ⟨k, h, e3⟩ : ∃ k h, c.hd[p]? = some (k, h) := ⟨_, _, List.getElem?_eq_getElem hp⟩
    obtain ⟨k1, x1, q1, _, _, _⟩ := s1.le.hd p k h e3
    have hp : p < G1.length := by rw [← h1.len]; exact (List.getElem?_eq_some_iff.1 q1).1
    exact ⟨_, List.getElem?_eq_getElem hp⟩
  refine ⟨s1.le.trans s2.le, Nat.le_trans s1.nx s2.nx, fun o ho hn => ?_, fun o ho => ?_, fun o ho => ?_, fun p ob ob2 e1 e2 => ?_, fun p ob ob2 k h o e1 e2 e3 e4 hl he => ?_⟩
  · rw [s2.frame o (Nat.lt_of_lt_of_le ho s1.nx) (fun hc => ?_), s1.frame o ho hn]
    rcases s1.new o hc with h | h
    · exact hn h
    · omega
  · rcases s2.new o ho with h | h
    · exact s1.new o h
    · exact .inr (Nat.le_trans s1.nx h)
  · rcases s2.fznew o ho with h | h | h
    · exact s1.fznew o h
    · rcases s1.new o h with h | h
      · exact .inr (.inl h)
      · exact .inr (.inr h)
    · exact .inr (.inr (Nat.le_trans s1.nx h))
  · obtain ⟨ob1, q2⟩ := mid p ob e1
    exact Nat.le_trans (s1.mono p ob ob1 e1 q2) (s2.mono p ob1 ob2 q2 e2)
  · obtain ⟨ob1, q2⟩ := mid p ob e1
    have m1 := s1.mono p ob ob1 e1 q2
    have m2 := s2.mono p ob1 ob2 q2 e2
    obtain ⟨rfl, r3, r4⟩ := s1.st p ob ob1 k h o e1 q2 e3 e4 hl (by omega)
    obtain ⟨rfl, r7, r8⟩ := s2.st p ob1 ob2 k h o q2 e2 (by rw [r4]; exact e3) e4 hl (by omega)
    rw [r7, r8, r3, r4]
    exact ⟨rfl, rfl, rfl⟩

/-! ### A new object; an object that is turned -/
theorem HSim.push {c : Cx} {G : LHeap} (hs : HSim c G) {H' : Heap} {x : AV} {ob : LObj} (hnx : c.H.next ≤ H'.next) (hfr : ∀ o, o < c.H.next → H'.get o = c.H.get o) (hid : ∀ o, idOf x = some o → c.H.next ≤ o ∧ o < H'.next)
    (hob : ObR ⟨c.hd ++ [(0, x)], c.Fz, H'⟩ 0 x ob) : HSim ⟨c.hd ++ [(0, x)], c.Fz, H'⟩ (G ++ [ob]) ∧ Step c G ⟨c.hd ++ [(0, x)], c.Fz, H'⟩ (G ++ [ob]) ∧ CxLe c ⟨c.hd ++ [(0, x)], c.Fz, H'⟩ := by
  have hhd : ∀ (p k : Nat) (h : AV), c.hd[p]? = some (k, h) → (c.hd ++ [(0, x)])[p]? = some (k, h) := fun p k h e => by
    rw [List.getElem?_append_left (List.getElem?_eq_some_iff.1 e).1]; exact e
  have hle : CxLe c ⟨c.hd ++ [(0, x)], c.Fz, H'⟩ := ⟨fun p k h e => ⟨k, h, hhd p k h e, Nat.le_refl _, fun _ => rfl, fun _ => rfl⟩, fun o ho => ⟨ho, hfr o (hs.fz o ho)⟩⟩
  have hinv : ∀ (p : Nat) (k : Nat) (h : AV) (ob' : LObj), (c.hd ++ [(0, x)])[p]? = some (k, h) → (G ++ [ob])[p]? = some ob' → (c.hd[p]? = some (k, h) ∧ G[p]? = some ob') ∨ (p = G.length ∧ k = 0 ∧ h = x ∧ ob' = ob) := by
    intro p k h ob' e1 e2
    by_cases hp : p < G.length
    · rw [List.getElem?_append_left hp] at e2
      rw [List.getElem?_append_left (by rw [hs.len]; exact hp)] at e1
      exact .inl ⟨e1, e2⟩
    · have hp' : p = G.length := by
        have := (List.getElem?_eq_some_iff.1 e2).1
        simp at this
        omega
      subst hp'
      rw [List.getElem?_concat_length] at e2
      rw [← hs.len, List.getElem?_concat_length] at e1
      cases e1; cases e2
      exact .inr ⟨rfl, rfl, rfl, rfl⟩
  have hown : ∀ o, Own ⟨c.hd ++ [(0, x)], c.Fz, H'⟩ (G ++ [ob]) o → Own c G o ∨ (c.H.next ≤ o ∧ o < H'.next) := by
    rintro o ⟨p, ob', k, h, e1, e2, e3, e4⟩
    rcases hinv p k h ob' e3 e1 with ⟨q1, q2⟩ | ⟨_, _, rfl, _⟩
    · exact .inl ⟨p, ob', k, h, q2, e2, q1, e4⟩
    · exact .inr (hid o e4)
  refine ⟨⟨by simp [hs.len], fun o ho => Nat.lt_of_lt_of_le (hs.fz o ho) hnx, fun o ho => ?_, fun o ho hf => ?_, fun p ob' k h e1 e2 => ?_, ?_⟩, ⟨hle, hnx, fun o ho _ => hfr o ho, fun o ho => ?_, fun o ho => .inl ho, fun p ob1 ob2 e1 e2 => ?_, fun p ob1 ob2 k h o e1 e2 e3 e4 hl _ => ?_⟩, hle⟩
  · rcases hown o ho with h | h
    · exact Nat.lt_of_lt_of_le (hs.lt o h) hnx
    · exact h.2
  · rcases hown o ho with h | h
    · exact hs.sep o h hf
    · have := hs.fz o hf; omega
  · rcases hinv p k h ob' e2 e1 with ⟨q1, q2⟩ | ⟨_, rfl, rfl, rfl⟩
    · by_cases hl : ob'.live = true
      · exact (hs.obj p ob' k h q2 q1).mono hle (fun o ho => hfr o (hs.lt o ⟨p, ob', k, h, q2, hl, q1, ho⟩))
      · cases ob' <;> first | exact absurd rfl hl | trivial
    · exact hob
  · intro p q ob1 ob2 k h k' h' o e1 e2 e3 e4 e5 e6 e7 e8
    rcases hinv p k h ob1 e5 e1 with ⟨q1, q2⟩ | ⟨r1, _, rfl, rfl⟩ <;> rcases hinv q k' h' ob2 e6 e2 with ⟨q3, q4⟩ | ⟨r2, _, rfl, rfl⟩
    · exact hs.excl p q ob1 ob2 k h k' h' o q2 q4 e3 e4 q1 q3 e7 e8
    · have := hs.lt o ⟨p, ob1, k, h, q2, e3, q1, e7⟩
      have := hid o e8; omega
    · have := hs.lt o ⟨q, ob2, k', h', q4, e4, q3, e8⟩
      have := hid o e7; omega
    · omega
  · rcases hown o ho with h | h
    · exact .inl h
    · exact .inr h.1
  · rw [List.getElem?_append_left (List.getElem?_eq_some_iff.1 e1).1, e1] at e2
    cases e2; exact Nat.le_refl _
  · rw [List.getElem?_append_left (List.getElem?_eq_some_iff.1 e1).1, e1] at e2
    cases e2
    have hlive : ob1.live = true := by cases ob1 <;> first | rfl | cases hl
    exact ⟨rfl, hfr o (hs.lt o ⟨p, ob1, k, h, e1, hlive, e3, e4⟩), by rw [hhd p k h e3, e3]⟩

/-- An object is turned: what it was may go on, or leave what it was for something new. -/
theorem HSim.upd {c : Cx} {G : LHeap} (hs : HSim c G) {p k k' : Nat} {x x' : AV} {ob ob' : LObj} {H' : Heap} (hG : G[p]? = some ob) (hl : ob.live = true) (hp : c.hd[p]? = some (k, x)) (hnx : c.H.next ≤ H'.next)
    (hfr : ∀ o, o < c.H.next → idOf x ≠ some o → H'.get o = c.H.get o) (hid : ∀ o, idOf x' = some o → (idOf x = some o ∨ c.H.next ≤ o) ∧ o < H'.next)
    (hk : k ≤ k') (hx : k = k' → x = x') (hf : fixd x = true → k = k') (hst : ob.st < ob'.st ∨ (ob.stp = false ∧ ob.st ≤ ob'.st))
    (hob : CxLe c ⟨c.hd.set p (k', x'), c.Fz, H'⟩ → ObR ⟨c.hd.set p (k', x'), c.Fz, H'⟩ k' x' ob') :
    HSim ⟨c.hd.set p (k', x'), c.Fz, H'⟩ (G.set p ob') ∧ Step c G ⟨c.hd.set p (k', x'), c.Fz, H'⟩ (G.set p ob') ∧ CxLe c ⟨c.hd.set p (k', x'), c.Fz, H'⟩ := by
  have hpl : p < c.hd.length := (List.getElem?_eq_some_iff.1 hp).1
  have hpg : p < G.length := (List.getElem?_eq_some_iff.1 hG).1
  have hownx : ∀ o, idOf x = some o → Own c G o := fun o ho => ⟨p, ob, k, x, hG, hl, hp, ho⟩
  have hle : CxLe c ⟨c.hd.set p (k', x'), c.Fz, H'⟩ := by
    refine ⟨fun q k1 h1 e => ?_, fun o ho => ⟨ho, hfr o (hs.fz o ho) (fun q => hs.sep o (hownx o q) ho)⟩⟩
    by_cases hq : q = p
    · subst hq
      rw [hp] at e; cases e
      exact ⟨k', x', by dsimp only; rw [List.getElem?_set_self hpl], hk, hx, hf⟩
    · exact ⟨k1, h1, by dsimp only; rw [List.getElem?_set_ne (Ne.symm hq)]; exact e, Nat.le_refl _, fun _ => rfl, fun _ => rfl⟩
  have hinv : ∀ (q : Nat) (k1 : Nat) (h1 : AV) (ob1 : LObj), (c.hd.set p (k', x'))[q]? = some (k1, h1) → (G.set p ob')[q]? = some ob1 → (q ≠ p ∧ c.hd[q]? = some (k1, h1) ∧ G[q]? = some ob1) ∨ (q = p ∧ k1 = k' ∧ h1 = x' ∧ ob1 = ob') := by
    intro q k1 h1 ob1 e1 e2
    by_cases hq : q = p
    · subst hq
      rw [List.getElem?_set_self hpl] at e1
      rw [List.getElem?_set_self hpg] at e2
      cases e1; cases e2
      exact .inr ⟨rfl, rfl, rfl, rfl⟩
    · rw [List.getElem?_set_ne (Ne.symm hq)] at e1 e2
      exact .inl ⟨hq, e1, e2⟩
  have hother : ∀ (q : Nat) (k1 : Nat) (h1 : AV) (ob1 : LObj) (o : Nat), q ≠ p → c.hd[q]? = some (k1, h1) → G[q]? = some ob1 → ob1.live = true → idOf h1 = some o → idOf x ≠ some o := by
    intro q k1 h1 ob1 o hq e1 e2 e3 e4 e5
    exact hq (hs.excl q p ob1 ob k1 h1 k x o e2 hG e3 hl e1 hp e4 e5)
  have hown : ∀ o, Own ⟨c.hd.set p (k', x'), c.Fz, H'⟩ (G.set p ob') o → (Own c G o ∧ o < c.H.next) ∨ (c.H.next ≤ o ∧ o < H'.next) := by
    rintro o ⟨q, ob1, k1, h1, e1, e2, e3, e4⟩
    rcases hinv q k1 h1 ob1 e3 e1 with ⟨_, q1, q2⟩ | ⟨_, _, rfl, _⟩
    · have := (⟨q, ob1, k1, h1, q2, e2, q1, e4⟩ : Own c G o)
      exact .inl ⟨this, hs.lt o this⟩
    · obtain ⟨q1, q2⟩ := hid o e4
      rcases q1 with q1 | q1
      · exact .inl ⟨hownx o q1, hs.lt o (hownx o q1)⟩
      · exact .inr ⟨q1, q2⟩
  refine ⟨⟨by simp [hs.len], fun o ho => Nat.lt_of_lt_of_le (hs.fz o ho) hnx, fun o ho => ?_, fun o ho hf => ?_, fun q ob1 k1 h1 e1 e2 => ?_, ?_⟩, ⟨hle, hnx, fun o ho hn => hfr o ho (fun q => hn (hownx o q)), fun o ho => ?_, fun o ho => .inl ho, fun q ob1 ob2 e1 e2 => ?_, fun q ob1 ob2 k1 h1 o e1 e2 e3 e4 hstp he => ?_⟩, hle⟩
  · rcases hown o ho with h | h
    · exact Nat.lt_of_lt_of_le h.2 hnx
    · exact h.2
  · rcases hown o ho with h | h
    · exact hs.sep o h.1 hf
    · have := hs.fz o hf; omega
  · rcases hinv q k1 h1 ob1 e2 e1 with ⟨hq, q1, q2⟩ | ⟨_, rfl, rfl, rfl⟩
    · by_cases hl1 : ob1.live = true
      · refine (hs.obj q ob1 k1 h1 q2 q1).mono hle (fun o ho => hfr o (hs.lt o ⟨q, ob1, k1, h1, q2, hl1, q1, ho⟩) (hother q k1 h1 ob1 o hq q1 q2 hl1 ho))
      · cases ob1 <;> first | exact absurd rfl hl1 | trivial
    · exact hob hle
  · intro q r ob1 ob2 k1 h1 k2 h2 o e1 e2 e3 e4 e5 e6 e7 e8
    rcases hinv q k1 h1 ob1 e5 e1 with ⟨r0, q1, q2⟩ | ⟨r1, _, rfl, rfl⟩ <;> rcases hinv r k2 h2 ob2 e6 e2 with ⟨r3, q3, q4⟩ | ⟨r2, _, rfl, rfl⟩
    · exact hs.excl q r ob1 ob2 k1 h1 k2 h2 o q2 q4 e3 e4 q1 q3 e7 e8
    · have h3 := hs.lt o ⟨q, ob1, k1, h1, q2, e3, q1, e7⟩
      rcases (hid o e8).1 with h | h
      · exact absurd h (hother q k1 h1 ob1 o r0 q1 q2 e3 e7)
      · omega
    · have h3 := hs.lt o ⟨r, ob2, k2, h2, q4, e4, q3, e8⟩
      rcases (hid o e7).1 with h | h
      · exact absurd h (hother r k2 h2 ob2 o r3 q3 q4 e4 e8)
      · omega
    · omega
  · rcases hown o ho with h | h
    · exact .inl h.1
    · exact .inr h.1
  · by_cases hq : q = p
    · subst hq
      rw [List.getElem?_set_self hpg] at e2
      cases e2
      rw [hG] at e1; cases e1
      rcases hst with h | h
      · exact Nat.le_of_lt h
      · exact h.2
    · rw [List.getElem?_set_ne (Ne.symm hq), e1] at e2
      cases e2; exact Nat.le_refl _
  · by_cases hq : q = p
    · subst hq
      rw [List.getElem?_set_self hpg] at e2
      cases e2
      rw [hG] at e1; cases e1
      rcases hst with h | h
      · omega
      · rw [h.1] at hstp; cases hstp
    · rw [List.getElem?_set_ne (Ne.symm hq), e1] at e2
      cases e2
      have hl1 : ob1.live = true := by cases ob1 <;> first | rfl | cases hstp
      exact ⟨rfl, hfr o (hs.lt o ⟨q, ob1, k1, h1, e1, hl1, e3, e4⟩) (hother q k1 h1 ob1 o hq e3 e1 hl1 e4), by dsimp only; rw [List.getElem?_set_ne (Ne.symm hq)]⟩
end Go.Sv
