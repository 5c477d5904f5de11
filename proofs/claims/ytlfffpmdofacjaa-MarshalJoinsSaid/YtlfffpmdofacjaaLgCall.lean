/- The logic's calls of functions that have a contract. -/
import Derived.Test.YtlfffpmdofacjaaLgFn
namespace Go.Sv

/-! ### Values that lead to no object of the caller's -/
mutual
def LV.dat : LV → Bool
  | .any => true
  | .bool _ | .u _ | .b _ | .i _ | .int _ _ | .str _ | .nilPtr | .nilSl | .nilMap | .nilFn | .nilIf => true
  | .cptr l _ => dats l
  | .lst l _ _ => dats l
  | .fn (.func _) l r => dats l && dats r
  | .iface _ v => v.dat
  | .agg l => dats l
  | .tup l => dats l
  | _ => false
def dats : List LV → Bool
  | [] => true
  | v :: l => v.dat && dats l
end

mutual
theorem AR.dat {c c' : Cx} (hfz : ∀ o, c.Fz o → c'.Fz o ∧ c'.H.get o = c.H.get o) (v : LV) (a : AV) (hd : v.dat = true) (h : AR c v a) : AR c' v a := by
  cases v with
  | cptr l i =>
    simp only [LV.dat] at hd
    cases h with
    | cptr hf hr hl => exact .cptr (hfz _ hf).1 (by rw [readAt_congr (hfz _ hf).2]; exact hr) (ARs.dat hfz l _ hd hl)
  | lst l len esz =>
    simp only [LV.dat] at hd
    cases h with
    | lst hf hrm hlen hr hl => exact .lst (hfz _ hf).1 hrm hlen (by rw [readAt_congr (hfz _ hf).2]; exact hr) (ARs.dat hfz l _ hd hl)
    | lstNil => exact .lstNil
    | lstEmp => exact .lstEmp
  | fn f l r =>
    cases f with
    | func f =>
      simp only [LV.dat, Bool.and_eq_true] at hd
      cases h with
      | fn hl hr => exact .fn (ARs.dat hfz l _ hd.1 hl) (ARs.dat hfz r _ hd.2 hr)
    | _ => simp [LV.dat] at hd
  | iface t w =>
    simp only [LV.dat] at hd
    cases h with
    | iface h => exact .iface (AR.dat hfz w _ hd h)
  | agg l =>
    simp only [LV.dat] at hd
    cases h with
    | agg h => exact .agg (ARs.dat hfz l _ hd h)
  | tup l =>
    simp only [LV.dat] at hd
    cases h with
    | tup h => exact .tup (ARs.dat hfz l _ hd h)
  | any => exact .any a
  | _ => first | (simp only [LV.dat] at hd; cases hd; done) | (cases h; constructor)
termination_by SizeOf.sizeOf v
theorem ARs.dat {c c' : Cx} (hfz : ∀ o, c.Fz o → c'.Fz o ∧ c'.H.get o = c.H.get o) (l : List LV) (r : List AV) (hd : dats l = true) (h : ARs c l r) : ARs c' l r := by
  cases l with
  | nil => cases h; exact .nil
  | cons v l =>
    simp only [dats, Bool.and_eq_true] at hd
    cases h with
    | cons e es => exact .cons (AR.dat hfz v _ hd.1 e) (ARs.dat hfz l _ hd.2 es)
termination_by SizeOf.sizeOf l
end

theorem dats_app : ∀ {l r : List LV}, dats l = true → dats r = true → dats (l ++ r) = true
  | [], _, _, h => h
  | v :: l, r, h, k => by
    simp only [dats, Bool.and_eq_true] at h
    simp only [List.cons_append, dats, Bool.and_eq_true]
    exact ⟨h.1, dats_app h.2 k⟩
theorem dats_take : ∀ {l : List LV} (n : Nat), dats l = true → dats (l.take n) = true
  | _, 0, _ => by simp [dats]
  | [], n + 1, _ => by simp [dats]
  | v :: l, n + 1, h => by
    simp only [dats, Bool.and_eq_true] at h
    simp only [List.take_succ_cons, dats, Bool.and_eq_true]
    exact ⟨h.1, dats_take n h.2⟩
theorem dats_drop : ∀ {l : List LV} (n : Nat), dats l = true → dats (l.drop n) = true
  | _, 0, h => h
  | [], n + 1, _ => by simp [dats]
  | v :: l, n + 1, h => by
    simp only [dats, Bool.and_eq_true] at h
    simp only [List.drop_succ_cons]
    exact dats_drop n h.2
theorem dats_map {α : Type} {f : α → LV} (h : ∀ a, (f a).dat = true) : ∀ l : List α, dats (l.map f) = true
  | [] => rfl
  | a :: l => by simp only [List.map_cons, dats, Bool.and_eq_true]; exact ⟨h a, dats_map h l⟩

/-! ### What a call is handed: rows by what stands in them -/
mutual
def bor (G : LHeap) : LV → LV → Prop
  | .dy p k, d => ∃ l len esz st, d = .lst l len esz ∧ G[p]? = some (.dyn l len esz k st) ∧ dats l = true
  | .vw p k lo len, d => ∃ l len0 esz st, d = .lst ((l.drop (lo * esz)).take (len * esz)) len esz ∧ G[p]? = some (.dyn l len0 esz k st) ∧ lo * esz + len * esz ≤ l.length ∧ dats l = true
  | .nilSl, d => d = .nilSl ∨ ∃ esz, d = .lst [] 0 esz
  | .agg l, d => ∃ r, d = .agg r ∧ bors G l r
  | v, d => d = v ∧ v.dat = true
def bors (G : LHeap) : List LV → List LV → Prop
  | [], r => r = []
  | v :: l, r => ∃ d r', r = d :: r' ∧ bor G v d ∧ bors G l r'
end

section calls
variable {P : Program} {c : Cx} {G : LHeap}

theorem bor_dat {v d : LV} {a : AV} (hb : d = v ∧ v.dat = true) (h : AR c v a) : AR ⟨[], fun o => c.Fz o ∨ Own c G o, c.H⟩ d a := by
  obtain ⟨rfl, hd⟩ := hb
  exact AR.dat (c' := ⟨[], fun o => c.Fz o ∨ Own c G o, c.H⟩) (fun o ho => ⟨Or.inl ho, rfl⟩) d a hd h
mutual
theorem bor_ok (hs : HSim c G) (v d : LV) (a : AV) (hb : bor G v d) (h : AR c v a) : AR ⟨[], fun o => c.Fz o ∨ Own c G o, c.H⟩ d a := by
  cases v with
  | dy p k =>
    simp only [bor] at hb
    obtain ⟨l, len, esz, st, rfl, hg, hd⟩ := hb
    cases h with
    | @dy _ _ k' hh _ e hk ha _ =>
      have hob := hs.obj p _ _ _ hg e
      obtain ⟨r0, r1, r2⟩ := hob
      have hha := ha (by omega)
      rcases r2 with ⟨r2, r3⟩ | ⟨o, v, room, t, clen, l', r2, r3, r4, r5, r6, r7, r8⟩
      · subst r3
        have : l = [] := List.eq_nil_of_length_eq_zero (by simpa using r1)
        subst this
        rw [hha, r2]; exact .lstNil
      · have hl' : l'.length = len * esz := by rw [← r6.length]; exact r1
        have hr := readAt_of (i := 0) (n := len * esz) r3 r5 r4 (by omega)
        rw [List.drop_zero, List.take_of_length_le (by omega)] at hr
        rw [hha, r2]
        exact .lst (.inr ⟨p, _, _, _, hg, rfl, e, by rw [r2]; rfl⟩) (fun r e => (r7 r e).2) r1 hr (ARs.dat (c' := ⟨[], fun o => c.Fz o ∨ Own c G o, c.H⟩) (fun o ho => ⟨Or.inl ho, rfl⟩) l l' hd r6)
  | vw p k lo len =>
    simp only [bor] at hb
    obtain ⟨l, len0, esz, st, rfl, hg, hle, hd⟩ := hb
    cases h with
    | @vw _ _ _ _ k' hh _ e hk ha _ =>
      have hkv := (hs.obj p _ _ _ hg e).1
      rcases ha (by omega) with ⟨r3, r4⟩ | ⟨o, v, len', esz', room, room', r3, r4, r9⟩
      · subst r3
        simp only [Nat.zero_mul, List.take_zero]
        rcases r4 with rfl | rfl
        · exact .lstNil
        · exact .lstEmp
      · have e2 := e
        rw [r3] at e2
        obtain ⟨_, q1, q2, q3, t, clen, l', q4, q5, q6, q7, _⟩ := dyn_at hs hg e2
        subst q2 q3
        have hr := readAt_of (i := lo * esz') (n := len * esz') q4 q6 q5 (by omega)
        rw [r4]
        refine .lst (.inr ⟨p, _, _, _, hg, rfl, e, by rw [r3]; rfl⟩) r9 (by simp; omega) hr ?_
        exact ((ARs.dat (c' := ⟨[], fun o => c.Fz o ∨ Own c G o, c.H⟩) (fun o ho => ⟨Or.inl ho, rfl⟩) l l' hd q7).drop _).take _
  | nilSl =>
    simp only [bor] at hb
    cases h
    rcases hb with rfl | ⟨esz, rfl⟩
    · exact .nilSl
    · exact .lstNil
  | agg l =>
    simp only [bor] at hb
    obtain ⟨r, rfl, hb⟩ := hb
    cases h with
    | agg h => exact .agg (bors_ok hs l r _ hb h)
  | _ => exact bor_dat (by simpa only [bor] using hb) h
termination_by SizeOf.sizeOf v
theorem bors_ok (hs : HSim c G) (l r : List LV) (as : List AV) (hb : bors G l r) (h : ARs c l as) : ARs ⟨[], fun o => c.Fz o ∨ Own c G o, c.H⟩ r as := by
  cases l with
  | nil => simp only [bors] at hb; subst hb; cases h; exact .nil
  | cons v l =>
    simp only [bors] at hb
    obtain ⟨d, r', rfl, hb1, hb2⟩ := hb
    cases h with
    | cons e es => exact .cons (bor_ok hs v d _ hb1 e) (bors_ok hs l r' _ hb2 es)
termination_by SizeOf.sizeOf l
end

/-! ### What a call gives -/
mutual
/-- What is handed back becomes the caller's. -/
def shV (n : Nat) : LV → LV
  | .dy j k => .dy (n + j) k
  | .agg l => .agg (shVs n l)
  | .tup l => .tup (shVs n l)
  | v => v
def shVs (n : Nat) : List LV → List LV
  | [] => []
  | v :: l => shV n v :: shVs n l
end
mutual
/-- What is handed back is looked at alone. -/
def frV (G0 : LHeap) : LV → LV
  | .dy j _ => match G0[j]? with
    | some (.dyn l len esz _ _) => .lst l len esz
    | _ => .any
  | .agg l => .agg (frVs G0 l)
  | .tup l => .tup (frVs G0 l)
  | v => v
def frVs (G0 : LHeap) : List LV → List LV
  | [] => []
  | v :: l => frV G0 v :: frVs G0 l
end
mutual
theorem sh_AR {c0 c' : Cx} {n m : Nat} (h : ∀ j a, j < m → AR c0 (.dy j 0) a → AR c' (.dy (n + j) 0) a) (v : LV) (a : AV) (hs : v.sim m = true) (ha : AR c0 v a) : AR c' (shV n v) a := by
  cases v with
  | dy j k =>
    simp only [LV.sim, Bool.and_eq_true, beq_iff_eq, decide_eq_true_eq] at hs
    obtain ⟨rfl, hj⟩ := hs
    exact h j a hj ha
  | agg l =>
    simp only [LV.sim] at hs
    cases ha with
    | agg ha => simp only [shV]; exact .agg (sh_ARs h l _ hs ha)
  | tup l =>
    simp only [LV.sim] at hs
    cases ha with
    | tup ha => simp only [shV]; exact .tup (sh_ARs h l _ hs ha)
  | _ => first | (simp only [LV.sim] at hs; cases hs; done) | (simp only [shV]; cases ha; constructor)
termination_by SizeOf.sizeOf v
theorem sh_ARs {c0 c' : Cx} {n m : Nat} (h : ∀ j a, j < m → AR c0 (.dy j 0) a → AR c' (.dy (n + j) 0) a) (l : List LV) (r : List AV) (hs : sims m l = true) (ha : ARs c0 l r) : ARs c' (shVs n l) r := by
  cases l with
  | nil => cases ha; simp only [shVs]; exact .nil
  | cons v l =>
    simp only [sims, Bool.and_eq_true] at hs
    cases ha with
    | cons e es => simp only [shVs]; exact .cons (sh_AR h v _ hs.1 e) (sh_ARs h l _ hs.2 es)
termination_by SizeOf.sizeOf l
end
mutual
theorem fr_AR {c0 c' : Cx} {G0 : LHeap} (h : ∀ j a, j < G0.length → AR c0 (.dy j 0) a → AR c' (frV G0 (.dy j 0)) a) (v : LV) (a : AV) (hs : v.sim G0.length = true) (ha : AR c0 v a) : AR c' (frV G0 v) a := by
  cases v with
  | dy j k =>
    simp only [LV.sim, Bool.and_eq_true, beq_iff_eq, decide_eq_true_eq] at hs
    obtain ⟨rfl, hj⟩ := hs
    exact h j a hj ha
  | agg l =>
    simp only [LV.sim] at hs
    cases ha with
    | agg ha => simp only [frV]; exact .agg (fr_ARs h l _ hs ha)
  | tup l =>
    simp only [LV.sim] at hs
    cases ha with
    | tup ha => simp only [frV]; exact .tup (fr_ARs h l _ hs ha)
  | _ => first | (simp only [LV.sim] at hs; cases hs; done) | (simp only [frV]; cases ha; constructor)
termination_by SizeOf.sizeOf v
theorem fr_ARs {c0 c' : Cx} {G0 : LHeap} (h : ∀ j a, j < G0.length → AR c0 (.dy j 0) a → AR c' (frV G0 (.dy j 0)) a) (l : List LV) (r : List AV) (hs : sims G0.length l = true) (ha : ARs c0 l r) : ARs c' (frVs G0 l) r := by
  cases l with
  | nil => cases ha; simp only [frVs]; exact .nil
  | cons v l =>
    simp only [sims, Bool.and_eq_true] at hs
    cases ha with
    | cons e es => simp only [frVs]; exact .cons (fr_AR h v _ hs.1 e) (fr_ARs h l _ hs.2 es)
termination_by SizeOf.sizeOf l
end

/-- A call whose rows are looked at alone. -/
theorem CallL_F {f : Nat} {args dargs : List LV} {v0 : LV} {G0 : LHeap} {K : LV → LHeap → Prop} (hc : FnS P f dargs v0 G0) (hb : bors G args dargs) (k : K (frV G0 v0) G) : CallL P (.fn f) args G K := by
  obtain ⟨ht, hsim, hG, hrun⟩ := hc
  refine ⟨ht, fun c t1 args1 hs htr ha => ?_⟩
  cases t1 with
  | yield o => exact htr.elim
  | fn g =>
    obtain rfl : f = g := htr
    obtain ⟨m, v1, hd', H', q1, q2, q3, q4, q5, q6⟩ := hrun (fun o => c.Fz o ∨ Own c G o) c.H args1 (fun o ho => ho.elim (hs.fz o) (hs.lt o)) (bors_ok hs args dargs args1 hb ha)
    have hle : CxLe c ⟨c.hd, fun o => c.Fz o ∨ Own ⟨hd', fun o => c.Fz o ∨ Own c G o, H'⟩ G0 o, H'⟩ := ⟨fun p k h e => ⟨k, h, e, Nat.le_refl _, fun _ => rfl, fun _ => rfl⟩, fun o ho => ⟨.inl ho, q5 o (hs.fz o ho)⟩⟩
    have hown : ∀ o, Own ⟨c.hd, fun o => c.Fz o ∨ Own ⟨hd', fun o => c.Fz o ∨ Own c G o, H'⟩ G0 o, H'⟩ G o → Own c G o := fun o ⟨p, ob, k, h, e1, e2, e3, e4⟩ => ⟨p, ob, k, h, e1, e2, e3, e4⟩
    refine ⟨m, v1, H', q1, ⟨c.hd, fun o => c.Fz o ∨ Own ⟨hd', fun o => c.Fz o ∨ Own c G o, H'⟩ G0 o, H'⟩, frV G0 v0, G, rfl, ?_, ?_, ?_, k⟩
    · refine ⟨hs.len, fun o ho => ?_, fun o ho => Nat.lt_of_lt_of_le (hs.lt o (hown o ho)) q4, fun o ho hf => ?_, fun p ob k h e1 e2 => ?_, fun p q ob ob' k h k' h' o e1 e2 e3 e4 e5 e6 e7 e8 => hs.excl p q ob ob' k h k' h' o e1 e2 e3 e4 e5 e6 e7 e8⟩
      · rcases ho with ho | ho
        · exact Nat.lt_of_lt_of_le (hs.fz o ho) q4
        · exact q2.lt o ho
      · rcases hf with hf | hf
        · exact hs.sep o (hown o ho) hf
        · have := q6 o hf; have := hs.lt o (hown o ho); omega
      · by_cases hl : ob.live = true
        · exact (hs.obj p ob k h e1 e2).mono hle (fun o ho => q5 o (hs.lt o ⟨p, ob, k, h, e1, hl, e2, ho⟩))
        · cases ob <;> first | exact absurd rfl hl | trivial
    · refine ⟨hle, q4, fun o ho _ => q5 o ho, fun o ho => .inl (hown o ho), fun o ho => ho.elim .inl (fun h => .inr (.inr (q6 o h))), fun p ob ob' e1 e2 => ?_, fun p ob ob' k h o e1 e2 e3 e4 e5 e6 => ?_⟩
      · rw [e1] at e2; cases e2; exact Nat.le_refl _
      · rw [e1] at e2; cases e2
        have hl : ob.live = true := by cases ob <;> first | rfl | cases e5
        exact ⟨rfl, q5 o (hs.lt o ⟨p, ob, k, h, e1, hl, e3, e4⟩), rfl⟩
    · refine fr_AR (fun j a hj h => ?_) v0 v1 hsim q3
      obtain ⟨l, len, esz, hob, hsc⟩ := hG j _ (List.getElem?_eq_getElem hj)
      have hg : G0[j]? = some (.dyn l len esz 0 0) := by rw [List.getElem?_eq_getElem hj, hob]
      simp only [frV]
      rw [hg]
      dsimp only
      cases h with
      | @dy _ _ k' hh _ e hk ha _ =>
        obtain ⟨r0, r1, r2⟩ := q2.obj j _ _ _ hg e
        have hha := ha (by omega)
        rcases r2 with ⟨r2, r3⟩ | ⟨o, v, room, t, clen, l', r2, r3, r4, r5, r6, r7, r8⟩
        · subst r3
          have : l = [] := List.eq_nil_of_length_eq_zero (by simpa using r1)
          subst this
          rw [hha, r2]; exact .lstNil
        · have hl' : l'.length = len * esz := by rw [← r6.length]; exact r1
          have hr := readAt_of (i := 0) (n := len * esz) r3 r5 r4 (by omega)
          rw [List.drop_zero, List.take_of_length_le (by omega)] at hr
          rw [hha, r2]
          exact .lst (.inr ⟨j, _, _, _, hg, rfl, e, by rw [r2]; rfl⟩) (fun r e => (r7 r e).2) r1 hr (scals_any hsc r6)

/-- A call whose rows become the caller's. -/
theorem CallL_S {f : Nat} {args dargs : List LV} {v0 : LV} {G0 : LHeap} {K : LV → LHeap → Prop} (hc : FnS P f dargs v0 G0) (hb : bors G args dargs) (k : K (shV G.length v0) (G ++ G0)) : CallL P (.fn f) args G K := by
  obtain ⟨ht, hsim, hG, hrun⟩ := hc
  refine ⟨ht, fun c t1 args1 hs htr ha => ?_⟩
  cases t1 with
  | yield o => exact htr.elim
  | fn g =>
    obtain rfl : f = g := htr
    obtain ⟨m, v1, hd', H', q1, q2, q3, q4, q5, q6⟩ := hrun (fun o => c.Fz o ∨ Own c G o) c.H args1 (fun o ho => ho.elim (hs.fz o) (hs.lt o)) (bors_ok hs args dargs args1 hb ha)
    have hhd : ∀ (p k : Nat) (h : AV), c.hd[p]? = some (k, h) → (c.hd ++ hd')[p]? = some (k, h) := fun p k h e => by
      rw [List.getElem?_append_left (List.getElem?_eq_some_iff.1 e).1]; exact e
    have hle : CxLe c ⟨c.hd ++ hd', c.Fz, H'⟩ := ⟨fun p k h e => ⟨k, h, hhd p k h e, Nat.le_refl _, fun _ => rfl, fun _ => rfl⟩, fun o ho => ⟨ho, q5 o (hs.fz o ho)⟩⟩
    have hlen' : hd'.length = G0.length := q2.len
    have hinv : ∀ (p : Nat) (k : Nat) (h : AV) (ob' : LObj), (c.hd ++ hd')[p]? = some (k, h) → (G ++ G0)[p]? = some ob' → (c.hd[p]? = some (k, h) ∧ G[p]? = some ob') ∨ (G.length ≤ p ∧ hd'[p - G.length]? = some (k, h) ∧ G0[p - G.length]? = some ob') := by
      intro p k h ob' e1 e2
      by_cases hp : p < G.length
      · rw [List.getElem?_append_left hp] at e2
        rw [List.getElem?_append_left (by rw [hs.len]; exact hp)] at e1
        exact .inl ⟨e1, e2⟩
      · rw [List.getElem?_append_right (by omega)] at e2
        rw [List.getElem?_append_right (by rw [hs.len]; omega), hs.len] at e1
        exact .inr ⟨by omega, e1, e2⟩
    have hownG : ∀ (p k : Nat) (h : AV) (ob : LObj) (o : Nat), hd'[p]? = some (k, h) → G0[p]? = some ob → ob.live = true → idOf h = some o → Own ⟨hd', fun o => c.Fz o ∨ Own c G o, H'⟩ G0 o := fun p k h ob o e1 e2 e3 e4 => ⟨p, ob, k, h, e2, e3, e1, e4⟩
    have hown : ∀ o, Own ⟨c.hd ++ hd', c.Fz, H'⟩ (G ++ G0) o → Own c G o ∨ (c.H.next ≤ o ∧ o < H'.next) := by
      rintro o ⟨p, ob', k, h, e1, e2, e3, e4⟩
      rcases hinv p k h ob' e3 e1 with ⟨q1, q2⟩ | ⟨_, r1, r2⟩
      · exact .inl ⟨p, ob', k, h, q2, e2, q1, e4⟩
      · have := hownG _ k h ob' o r1 r2 e2 e4
        exact .inr ⟨q6 o this, q2.lt o this⟩
    refine ⟨m, v1, H', q1, ⟨c.hd ++ hd', c.Fz, H'⟩, shV G.length v0, G ++ G0, rfl, ?_, ?_, ?_, k⟩
    · refine ⟨by simp [hs.len, hlen'], fun o ho => Nat.lt_of_lt_of_le (hs.fz o ho) q4, fun o ho => ?_, fun o ho hf => ?_, fun p ob k h e1 e2 => ?_, fun p q ob ob' k h k' h' o e1 e2 e3 e4 e5 e6 e7 e8 => ?_⟩
      · rcases hown o ho with h | h
        · exact Nat.lt_of_lt_of_le (hs.lt o h) q4
        · exact h.2
      · rcases hown o ho with h | h
        · exact hs.sep o h hf
        · have := hs.fz o hf; omega
      · rcases hinv p k h ob e2 e1 with ⟨r1, r2⟩ | ⟨_, r1, r2⟩
        · by_cases hl : ob.live = true
          · exact (hs.obj p ob k h r2 r1).mono hle (fun o ho => q5 o (hs.lt o ⟨p, ob, k, h, r2, hl, r1, ho⟩))
          · cases ob <;> first | exact absurd rfl hl | trivial
        · obtain ⟨l, len, esz, rfl, hsc⟩ := hG _ _ r2
          obtain ⟨s0, s1, s2⟩ := q2.obj _ _ _ _ r2 r1
          refine ⟨s0, s1, ?_⟩
          rcases s2 with s2 | ⟨o, v, room, t, clen, l', s2, s3, s4, s5, s6, s7⟩
          · exact .inl s2
          · exact .inr ⟨o, v, room, t, clen, l', s2, s3, s4, s5, scals_any hsc s6, s7⟩
      · rcases hinv p k h ob e5 e1 with ⟨r1, r2⟩ | ⟨hp, r1, r2⟩ <;> rcases hinv q k' h' ob' e6 e2 with ⟨r3, r4⟩ | ⟨hq, r3, r4⟩
        · exact hs.excl p q ob ob' k h k' h' o r2 r4 e3 e4 r1 r3 e7 e8
        · have := hs.lt o ⟨p, ob, k, h, r2, e3, r1, e7⟩
          have := q6 o (hownG _ _ _ _ o r3 r4 e4 e8); omega
        · have := hs.lt o ⟨q, ob', k', h', r4, e4, r3, e8⟩
          have := q6 o (hownG _ _ _ _ o r1 r2 e3 e7); omega
        · have := q2.excl _ _ ob ob' k h k' h' o r2 r4 e3 e4 r1 r3 e7 e8
          omega
    · refine ⟨hle, q4, fun o ho _ => q5 o ho, fun o ho => (hown o ho).elim .inl (fun h => .inr h.1), fun o ho => .inl ho, fun p ob ob' e1 e2 => ?_, fun p ob ob' k h o e1 e2 e3 e4 e5 e6 => ?_⟩
      · rw [List.getElem?_append_left (List.getElem?_eq_some_iff.1 e1).1, e1] at e2
        cases e2; exact Nat.le_refl _
      · rw [List.getElem?_append_left (List.getElem?_eq_some_iff.1 e1).1, e1] at e2
        cases e2
        have hl : ob.live = true := by cases ob <;> first | rfl | cases e5
        exact ⟨rfl, q5 o (hs.lt o ⟨p, ob, k, h, e1, hl, e3, e4⟩), by rw [hhd p k h e3, e3]⟩
    · refine sh_AR (fun j a hj h => ?_) v0 v1 hsim q3
      cases h with
      | @dy _ _ k' hh _ e hk ha hsl =>
        exact .dy (k' := k') (h := hh) (by dsimp only; rw [List.getElem?_append_right (by rw [hs.len]; omega), hs.len, Nat.add_sub_cancel_left]; exact e) hk ha hsl
end calls
end Go.Sv
