/- A region's operations in one order: what each does in whatever order its edges allow. -/
import Derived.Test.YtnlnmpjdcopngaaGreatSvQuiet
namespace Go.Sv

theorem eqAV_spec : ∀ (n : Nat) (a b : AV), eqAV n a b = true → a = b
  | 0, _, _, h => by cases h
  | n + 1, a, b, h => by
    have hl : ∀ (x y : List AV), eqL (eqAV n) x y = true → x = y := by
      intro x
      induction x with
      | nil => intro y hy; cases y with
        | nil => rfl
        | cons _ _ => cases hy
      | cons c x ih =>
        intro y hy
        cases y with
        | nil => cases hy
        | cons d y =>
          simp only [eqL] at hy
          split at hy
          · rename_i hc; rw [eqAV_spec n c d hc, ih y hy]
          · cases hy
    have hn : ∀ {x y : Nat}, Nat.beq x y = true → x = y := fun h => Nat.eq_of_beq_eq_true h
    unfold eqAV at h
    split at h
    · simp only [beq_iff_eq] at h; rw [h]
    · simp only [Bool.and_eq_true, eqI_spec, beq_iff_eq] at h; rw [kindEq_spec h.1, h.2]
    · simp only [Bool.and_eq_true] at h; rw [hn h.1, hn h.2]
    · rfl
    · simp only [Bool.and_eq_true] at h; rw [hn h.1.1, hn h.1.2, hn h.2]
    · rfl
    · simp only [Bool.and_eq_true, beq_iff_eq] at h
      obtain ⟨⟨⟨⟨⟨h1, h2⟩, h3⟩, h4⟩, h5⟩, h6⟩ := h
      rw [hn h1, hn h2, hn h3, hn h4, hn h5, h6]
    · rfl
    · rfl
    · rw [hn h]
    · rfl
    · simp only [Bool.and_eq_true] at h; rw [hn h.1.1, hl _ _ h.1.2, hl _ _ h.2]
    · simp only [Bool.and_eq_true] at h; rw [hn h.1.1, hl _ _ h.1.2, hl _ _ h.2]
    · rfl
    · simp only [Bool.and_eq_true] at h; rw [hn h.1, eqAV_spec n _ _ h.2]
    · rw [hl _ _ h]
    · rw [hl _ _ h]
    · cases h

/-! ### Masks -/
theorem testBit_lor (a b j : Nat) : (Nat.lor a b).testBit j = (a.testBit j || b.testBit j) := Nat.testBit_or a b j
theorem testBit_pow (i j : Nat) : (2 ^ i).testBit j = decide (i = j) := Nat.testBit_two_pow
theorem land_sub {a b : Nat} (h : Nat.beq (Nat.land a b) a = true) (j : Nat) (hj : a.testBit j = true) : b.testBit j = true := by
  have e : a &&& b = a := Nat.eq_of_beq_eq_true h
  rw [← e, Nat.testBit_and] at hj
  simp only [Bool.and_eq_true] at hj
  exact hj.2
theorem bitsOf_spec : ∀ {l : List Nat} {t : Nat}, t ∈ l → (bitsOf l).testBit t = true
  | [], _, h => by cases h
  | a :: l, t, h => by
    simp only [bitsOf, testBit_lor, testBit_pow, Bool.or_eq_true, decide_eq_true_eq]
    rcases List.mem_cons.1 h with rfl | h
    · exact .inl rfl
    · exact .inr (bitsOf_spec h)
theorem maskOf_spec {acc : List Nat} : ∀ {l : List Edge} {j : Nat}, (maskOf acc l).testBit j = true ↔ ∃ e ∈ l, Region.binds .any e = true ∧ (j = e.on ∨ (acc.getD e.on 0).testBit j = true)
  | [], j => by simp [maskOf]
  | e :: l, j => by
    simp only [maskOf]
    split
    · rename_i hb
      simp only [testBit_lor, testBit_pow, Bool.or_eq_true, decide_eq_true_eq, maskOf_spec, List.mem_cons, exists_eq_or_imp, hb, true_and]
      constructor
      · rintro ((h | h) | h)
        · exact .inl (.inl h.symm)
        · exact .inl (.inr h)
        · exact .inr h
      · rintro ((h | h) | h)
        · exact .inl (.inl h.symm)
        · exact .inl (.inr h)
        · exact .inr h
    · rename_i hb
      simp only [maskOf_spec, List.mem_cons, exists_eq_or_imp, hb, Bool.false_eq_true, false_and, false_or]

theorem filterB_mem {α : Type} {f : α → Bool} : ∀ {l : List α} {x : α}, x ∈ filterB f l ↔ x ∈ l ∧ f x = true
  | [], x => by simp [filterB]
  | a :: l, x => by
    simp only [filterB]
    split
    · rename_i h
      simp only [List.mem_cons, filterB_mem]
      constructor
      · rintro (rfl | h')
        · exact ⟨.inl rfl, h⟩
        · exact ⟨.inr h'.1, h'.2⟩
      · rintro ⟨rfl | h1, h2⟩
        · exact .inl rfl
        · exact .inr ⟨h1, h2⟩
    · rename_i h
      simp only [List.mem_cons, filterB_mem]
      constructor
      · rintro ⟨h1, h2⟩; exact ⟨.inr h1, h2⟩
      · rintro ⟨rfl | h1, h2⟩
        · rw [h] at h2; cases h2
        · exact ⟨h1, h2⟩
theorem allB_mem {α : Type} {f : α → Bool} : ∀ {l : List α}, allB f l = true → ∀ x ∈ l, f x = true
  | [], _, x, hx => by cases hx
  | a :: l, h, x, hx => by
    simp only [allB] at h
    split at h
    · rename_i ha
      rcases List.mem_cons.1 hx with rfl | hx
      · exact ha
      · exact allB_mem h x hx
    · cases h

/-- What the row of operations with their masks is. -/
structure LOk (P : Program) (ops : Array Oper) (L : List DOp) : Prop where
  op : ∀ x ∈ L, ops[x.i]? = some x.o ∧ x.i < ops.size
  all : ∀ i, i < ops.size → ∃ x ∈ L, x.i = i
  inj : ∀ x ∈ L, ∀ y ∈ L, x.i = y.i → x = y
  cl : ∀ x ∈ L, x.c = cls P x.o.op
  lm : ∀ x ∈ L, ∀ t ∈ looks ops x.o, x.lm.testBit t = true
  msk : ∀ x ∈ L, ∀ j, x.m.testBit j = true → ∃ e ∈ x.o.after.toList, Region.binds .any e = true ∧ (j = e.on ∨ ∃ y ∈ L, y.i = e.on ∧ y.m.testBit j = true)
  edge : ∀ x ∈ L, ∀ e ∈ x.o.after.toList, Region.binds .any e = true → x.m.testBit e.on = true

theorem dops_get (P : Program) (ops : Array Oper) : ∀ (l : List Oper) (acc : List Nat) (i : Nat) (j : Nat), (dops P ops l acc i).length = l.length ∧ ∀ x, (dops P ops l acc i)[j]? = some x →
    x.i = i + j ∧ l[j]? = some x.o ∧ x.c = cls P x.o.op ∧ x.lm = bitsOf (looks ops x.o) ∧ x.m = maskOf (acc ++ ((dops P ops l acc i).take j).map (·.m)) x.o.after.toList
  | [], acc, i, j => ⟨rfl, fun x h => by simp [dops] at h⟩
  | o :: l, acc, i, 0 => ⟨by simp [dops, (dops_get P ops l _ (i + 1) 0).1], fun x h => by
      simp only [dops, List.getElem?_cons_zero, Option.some.injEq] at h
      subst h
      exact ⟨rfl, rfl, rfl, rfl, by simp⟩⟩
  | o :: l, acc, i, j + 1 => ⟨by simp [dops, (dops_get P ops l _ (i + 1) 0).1], fun x h => by
      simp only [dops, List.getElem?_cons_succ] at h
      obtain ⟨h1, h2, h3, h4, h5⟩ := (dops_get P ops l _ (i + 1) j).2 x h
      refine ⟨by omega, by simpa using h2, h3, h4, ?_⟩
      rw [h5]
      simp [dops]⟩

theorem dops_ok (P : Program) (ops : Array Oper) : LOk P ops (dops P ops ops.toList [] 0) := by
  have hg := dops_get P ops ops.toList [] 0
  have hlen : (dops P ops ops.toList [] 0).length = ops.size := by rw [(hg 0).1]; simp
  have hm : ∀ x ∈ dops P ops ops.toList [] 0, ∃ j, (dops P ops ops.toList [] 0)[j]? = some x ∧ x.i = j := fun x hx => by
    obtain ⟨j, hj⟩ := List.mem_iff_getElem?.1 hx
    exact ⟨j, hj, by have := ((hg j).2 x hj).1; omega⟩
  refine ⟨fun x hx => ?_, fun i hi => ?_, fun x hx y hy e => ?_, fun x hx => ?_, fun x hx t ht => ?_, fun x hx j hj => ?_, fun x hx e he hb => ?_⟩
  · obtain ⟨j, hj, e⟩ := hm x hx
    obtain ⟨_, h2, _⟩ := (hg j).2 x hj
    rw [e]
    have : j < ops.size := by
      have := (List.getElem?_eq_some_iff.1 hj).1
      omega
    exact ⟨by simpa using h2, this⟩
  · exact ⟨(dops P ops ops.toList [] 0)[i]'(by omega), List.getElem_mem _, by
      have := ((hg i).2 _ (List.getElem?_eq_getElem (by omega))).1
      omega⟩
  · obtain ⟨j, hj, e1⟩ := hm x hx
    obtain ⟨j', hj', e2⟩ := hm y hy
    have : j = j' := by omega
    subst this
    rw [hj] at hj'
    cases hj'
    rfl
  · obtain ⟨j, hj, e1⟩ := hm x hx
    exact ((hg j).2 x hj).2.2.1
  · obtain ⟨j, hj, e1⟩ := hm x hx
    rw [((hg j).2 x hj).2.2.2.1]
    exact bitsOf_spec ht
  · obtain ⟨i, hi, e1⟩ := hm x hx
    rw [((hg i).2 x hi).2.2.2.2] at hj
    obtain ⟨e, he, hb, h⟩ := maskOf_spec.1 hj
    refine ⟨e, he, hb, h.imp id fun h => ?_⟩
    rw [List.nil_append, List.getD_eq_getElem?_getD, List.getElem?_map] at h
    cases hq : ((dops P ops ops.toList [] 0).take i)[e.on]? with
    | none => rw [hq] at h; simp at h
    | some y =>
      rw [hq] at h
      have hy := List.mem_iff_getElem?.2 ⟨e.on, hq⟩
      rw [List.getElem?_take] at hq
      split at hq
      · exact ⟨y, List.mem_iff_getElem?.2 ⟨_, hq⟩, by have := ((hg e.on).2 y hq).1; omega, h⟩
      · cases hq
  · obtain ⟨i, hi, e1⟩ := hm x hx
    rw [((hg i).2 x hi).2.2.2.2]
    exact maskOf_spec.2 ⟨e, he, hb, .inl rfl⟩

theorem dstsOk_spec : ∀ {l : List DOp} {seen : Nat}, dstsOk l seen = true → (∀ x ∈ l, ∀ d, x.o.dst = some d → seen.testBit d = false) ∧ ∀ x ∈ l, ∀ y ∈ l, ∀ d, x.o.dst = some d → y.o.dst = some d → x = y
  | [], _, _ => ⟨fun x hx => (by cases hx), fun x hx => by cases hx⟩
  | a :: l, seen, h => by
    simp only [dstsOk] at h
    split at h
    · rename_i ha
      obtain ⟨h1, h2⟩ := dstsOk_spec h
      refine ⟨fun x hx d hd => ?_, fun x hx y hy d hd hd' => ?_⟩
      · rcases List.mem_cons.1 hx with rfl | hx
        · rw [ha] at hd; cases hd
        · exact h1 x hx d hd
      · rcases List.mem_cons.1 hx with rfl | hx
        · rw [ha] at hd; cases hd
        · rcases List.mem_cons.1 hy with rfl | hy
          · rw [ha] at hd'; cases hd'
          · exact h2 x hx y hy d hd hd'
    · rename_i d0 ha
      split at h
      · cases h
      · rename_i hs
        obtain ⟨h1, h2⟩ := dstsOk_spec h
        have h3 : ∀ x ∈ l, x.o.dst ≠ some d0 := fun x hx e => by
          have := h1 x hx d0 e
          rw [testBit_lor, testBit_pow] at this
          simp at this
        refine ⟨fun x hx d hd => ?_, fun x hx y hy d hd hd' => ?_⟩
        · rcases List.mem_cons.1 hx with rfl | hx
          · rw [ha] at hd; cases hd; simpa using hs
          · have := h1 x hx d hd
            rw [testBit_lor] at this
            simp only [Bool.or_eq_false_iff] at this
            exact this.2
        · rcases List.mem_cons.1 hx with ex | kx <;> rcases List.mem_cons.1 hy with ey | ky
          · rw [ex, ey]
          · subst ex; rw [ha] at hd; cases hd; exact absurd hd' (h3 y ky)
          · subst ey; rw [ha] at hd'; cases hd'; exact absurd hd (h3 x kx)
          · exact h2 x kx y ky d hd hd'

theorem isCh_iff {x : DOp} : isCh x = true ↔ x.c = .ch := by
  unfold isCh
  constructor
  · intro h; split at h
    · assumption
    · cases h
  · intro h; rw [h]
theorem isQuiet_iff {x : DOp} : isQuiet x = true ↔ x.c = .quiet := by
  unfold isQuiet
  constructor
  · intro h; split at h
    · assumption
    · cases h
  · intro h; rw [h]

theorem topo_cons {x : DOp} {l : List DOp} {seen chs s : Nat} (h : topo (x :: l) seen chs = some s) : (∀ j, x.m.testBit j = true → seen.testBit j = true) ∧ seen.testBit x.i = false ∧
    ((x.c = .quiet ∧ topo l (Nat.lor (2 ^ x.i) seen) chs = some s) ∨
     ((x.c = .rd ∨ x.c = .al) ∧ (∀ j, chs.testBit j = true → x.m.testBit j = true) ∧ topo l (Nat.lor (2 ^ x.i) seen) chs = some s) ∨
     (x.c = .ch ∧ (∀ j, chs.testBit j = true → x.m.testBit j = true) ∧ topo l (Nat.lor (2 ^ x.i) seen) (Nat.lor (2 ^ x.i) chs) = some s)) := by
  simp only [topo] at h
  split at h
  · cases h
  · rename_i h1
    split at h
    · cases h
    · rename_i h2
      refine ⟨fun j hj => land_sub h1 j hj, by simpa using h2, ?_⟩
      split at h
      · rename_i h3
        exact .inl ⟨isQuiet_iff.1 h3, h⟩
      · rename_i h3
        split at h
        · cases h
        · rename_i h4
          split at h
          · rename_i h5
            exact .inr (.inr ⟨isCh_iff.1 h5, fun j hj => land_sub h4 j hj, h⟩)
          · rename_i h5
            refine .inr (.inl ⟨?_, fun j hj => land_sub h4 j hj, h⟩)
            cases hc : x.c with
            | quiet => rw [isQuiet_iff.2 hc] at h3; cases h3
            | rd => exact .inl rfl
            | al => exact .inr rfl
            | ch => rw [isCh_iff.2 hc] at h5; cases h5

theorem topo_seen : ∀ {l : List DOp} {seen chs s : Nat}, topo l seen chs = some s → ∀ j, s.testBit j = true ↔ (seen.testBit j = true ∨ ∃ x ∈ l, x.i = j)
  | [], seen, chs, s, h, j => by simp only [topo, Option.some.injEq] at h; subst h; simp
  | x :: l, seen, chs, s, h, j => by
    obtain ⟨_, _, h3⟩ := topo_cons h
    have key : ∀ chs', topo l (Nat.lor (2 ^ x.i) seen) chs' = some s → (s.testBit j = true ↔ (seen.testBit j = true ∨ ∃ y ∈ x :: l, y.i = j)) := fun chs' h' => by
      rw [topo_seen h' j, testBit_lor, testBit_pow]
      simp only [Bool.or_eq_true, decide_eq_true_eq, List.mem_cons, exists_eq_or_imp]
      constructor
      · rintro ((h | h) | h)
        · exact .inr (.inl h)
        · exact .inl h
        · exact .inr (.inr h)
      · rintro (h | h | h)
        · exact .inl (.inr h)
        · exact .inl (.inl h)
        · exact .inr h
    rcases h3 with ⟨_, h3⟩ | ⟨_, _, h3⟩ | ⟨_, _, h3⟩ <;> exact key _ h3
theorem topo_new : ∀ {l : List DOp} {seen chs s : Nat}, topo l seen chs = some s → ∀ x ∈ l, seen.testBit x.i = false
  | [], _, _, _, _, x, hx => by cases hx
  | y :: l, seen, chs, s, h, x, hx => by
    obtain ⟨_, h2, h3⟩ := topo_cons h
    rcases List.mem_cons.1 hx with rfl | hx
    · exact h2
    · have key : ∀ chs', topo l (Nat.lor (2 ^ y.i) seen) chs' = some s → seen.testBit x.i = false := fun chs' h' => by
        have := topo_new h' x hx
        rw [testBit_lor] at this
        simp only [Bool.or_eq_false_iff] at this
        exact this.2
      rcases h3 with ⟨_, h3⟩ | ⟨_, _, h3⟩ | ⟨_, _, h3⟩ <;> exact key _ h3
theorem topo_chs : ∀ {l : List DOp} {seen chs s : Nat}, topo l seen chs = some s → ∀ x ∈ l, x.c ≠ .quiet → ∀ j, chs.testBit j = true → x.m.testBit j = true
  | [], _, _, _, _, _, hx => by cases hx
  | y :: l, seen, chs, s, h, x, hx => by
    intro hq j hj
    obtain ⟨_, h2, h3⟩ := topo_cons h
    rcases List.mem_cons.1 hx with rfl | hx
    · rcases h3 with ⟨e, h3⟩ | ⟨e, h4, h3⟩ | ⟨e, h4, h3⟩
      · exact absurd e hq
      · exact h4 j hj
      · exact h4 j hj
    · rcases h3 with ⟨e, h3⟩ | ⟨e, h4, h3⟩ | ⟨e, h4, h3⟩
      · exact topo_chs h3 x hx hq j hj
      · exact topo_chs h3 x hx hq j hj
      · exact topo_chs h3 x hx hq j (by rw [testBit_lor, hj]; simp)

theorem phase_sub {L chain : List DOp} {p : Nat} : ∀ x ∈ phase L chain p, x ∈ L := fun _ hx => (filterB_mem.1 hx).1
theorem ordFrom_sub {L chain : List DOp} : ∀ {l : List DOp} {p : Nat}, (∀ x ∈ l, x ∈ L) → ∀ x ∈ ordFrom L chain l p, x ∈ L
  | [], _, _, _, hx => by cases hx
  | c :: l, p, h, x, hx => by
    simp only [ordFrom, List.mem_cons, List.mem_append] at hx
    rcases hx with rfl | hx | hx
    · exact h _ (by simp)
    · exact phase_sub x hx
    · exact ordFrom_sub (fun y hy => h y (by simp [hy])) x hx
theorem ordOf_sub {L : List DOp} : ∀ x ∈ ordOf L (filterB isCh L), x ∈ L := fun x hx => by
  simp only [ordOf, List.mem_append] at hx
  rcases hx with hx | hx
  · exact phase_sub x hx
  · exact ordFrom_sub (fun y hy => (filterB_mem.1 hy).1) x hx

end Go.Sv
