/- The logic's functions: bodies, contracts. -/
import Derived.Test.YtlfffpmdofacjaaLgRun
namespace Go.Sv

section fns
variable {P : Program}

theorem lk_argsL : ∀ (l : List LV) (i t : Nat), lk (argsL l i) t = if i ≤ t ∧ t < i + l.length then l.getD (t - i) .any else .any
  | [], i, t => by simp only [argsL, lk_nil, List.length_nil]; rw [if_neg (by omega)]
  | v :: l, i, t => by
    simp only [argsL, lk_cons, List.length_cons]
    rw [lk_argsL l (i + 1) t]
    by_cases h : t = i
    · subst h; rw [if_pos rfl, if_pos (by omega)]; simp
    · rw [if_neg h]
      by_cases h2 : i + 1 ≤ t ∧ t < i + 1 + l.length
      · rw [if_pos h2, if_pos (by omega), show t - i = (t - (i + 1)) + 1 from by omega]; simp
      · rw [if_neg h2, if_neg (by omega)]
theorem EnvL.start {c : Cx} {args : List LV} {args1 : List AV} (h : ARs c args args1) : EnvL c (argsL args 0) (ofListFrom args1 0 .e) := by
  intro t
  rw [lk_argsL, get_ofList, getP_e]
  have hl := h.length
  by_cases ht : t < args.length
  · rw [if_pos (by omega), if_pos (by omega)]
    obtain ⟨a, q1, q2⟩ := h.get (List.getElem?_eq_getElem ht)
    rw [Nat.sub_zero, q1, List.getD_eq_getElem?_getD, List.getElem?_eq_getElem ht]
    exact q2
  · rw [if_neg (by omega)]; exact .any _

theorem takeL_ok {K : LHeap → Prop} : ∀ {D : List Nat} {D1 : List Nat} {c : Cx} {G : LHeap}, DRs c D D1 → HSim c G → takeL D G K → ∃ c' G', takeDefs D1 c.H = some c'.H ∧ HSim c' G' ∧ Step c G c' G' ∧ K G'
  | [], _, c, G, .nil, hs, h => ⟨c, G, rfl, hs, .refl c G, h⟩
  | d :: D, _, c, G, .cons (o := o) e es, hs, h => by
    simp only [takeL] at h
    split at h
    · rename_i hg
      obtain ⟨_, o', he, hget⟩ := hs.obj d _ _ _ hg e
      injection he with he
      subst he
      obtain ⟨q1, q2, q3⟩ := hs.upd (k' := 0) (x' := .ptr o 0 0) (ob' := .defd false) (H' := c.H.put o (.defd false)) hg rfl e (Nat.le_refl _) (fun o' _ hne => Heap.get_put_ne _ _ (fun q => hne (by rw [q]; rfl)))
        (fun o' e' => by cases e'; exact ⟨.inl rfl, hs.lt o ⟨d, _, _, _, hg, rfl, e, rfl⟩⟩) (Nat.le_refl _) (fun _ => rfl) (fun _ => rfl) (.inr ⟨rfl, Nat.le_refl _⟩) (fun _ => ⟨rfl, o, rfl, Heap.get_put_same _ _ _⟩)
      obtain ⟨c', G', r1, r2, r3, r4⟩ := takeL_ok (es.mono q3) q1 h
      refine ⟨c', G', ?_, r2, .trans hs q1 q2 r3, r4⟩
      simp only [takeDefs]
      rw [hget]
      exact r1
    · exact h.elim

def oneA : List AV → AV
  | [v] => v
  | l => .tup l
theorem CallL_body {f : Nat} {s : LC} {n : Nat} {rs : List RRes} (hf : resFn P f = some ⟨n, s.r, rs⟩) (hok : s.ok = true) {args : List LV} (hn : args.length ≤ n) {G : LHeap} {K : LV → LHeap → Prop}
    (h : W P f n s none (argsL args 0) [] G fun x ρ D G' => (match x with | .exit _ => False | _ => True) ∧ takeL D G' fun G2 => resL ρ G2 rs fun vs => K (oneL vs) G2) : CallL P (.fn f) args G K := by
  unfold resFn at hf
  split at hf
  · cases hf
  · rename_i hcl
    simp only [Bool.and_eq_true, Bool.not_eq_true'] at hcl
    refine ⟨hcl, fun c t1 args1 hs ht ha => ?_⟩
    cases t1 with
    | yield o => exact ht.elim
    | fn g =>
      obtain rfl : f = g := ht
      split at hf
      · cases hf
      · rename_i fn hfn
        split at hf
        · cases hf
        · rename_i b hb
          split at hf
          · cases hf
          · rename_i hlim
            split at hf
            · cases hf
            · rename_i rc hrc
              split at hf
              · cases hf
              · rename_i rs' hrs
                cases hf
                obtain ⟨m, x, E', D1', c', ρ', D', G', q1, q2, q3, q4, q5, q6, q7⟩ := h b c _ [] none hrc hok hs (EnvL.start ha) .nil trivial
                obtain ⟨c2, G2, r1, r2, r3, r4⟩ := takeL_ok q5 q2 q7
                obtain ⟨vs, as, s1, s2, s3⟩ := resR_ok r2 (q4.mono r3.le) hrs r4
                have hone : AR c2 (oneL vs) (oneA as) := by
                  cases s2 with
                  | nil => exact .tup .nil
                  | cons e es =>
                    cases es with
                    | nil => exact e
                    | cons e2 es2 => exact .tup (.cons e (.cons e2 es2))
                refine ⟨m + 1, oneA as, c2.H, ?_, c2, oneL vs, G2, rfl, r2, .trans hs q2 q3 r3, hone, s3⟩
                unfold callA
                dsimp only [noO]
                unfold compFn
                rw [hfn]
                dsimp only
                rw [hb]
                dsimp only
                rw [if_pos (Nat.le_of_ble_eq_true hlim)]
                dsimp only
                have hba : Nat.ble args1.length fn.ntmps = true := Nat.ble_eq_true_of_le (by rw [← ha.length]; exact hn)
                rw [hba]
                dsimp only
                have q1' : (compCode P f fn.ntmps b).run (callA P (fun _ _ _ => RV.no) m) m none (ofListFrom args1 0 .e) [] c.H = .ok x E' D1' c'.H := q1
                rw [show callA P noO m = callA P (fun _ _ _ => RV.no) m from rfl, q1']
                dsimp only
                cases x with
                | exit id => exact q6.elim
                | normal =>
                  dsimp only
                  rw [r1]
                  dsimp only
                  rw [s1]
                  rcases as with _ | ⟨a, _ | ⟨a2, as⟩⟩ <;> rfl
                | ret =>
                  dsimp only
                  rw [r1]
                  dsimp only
                  rw [s1]
                  rcases as with _ | ⟨a, _ | ⟨a2, as⟩⟩ <;> rfl

theorem CallL.mono {t : LTgt} {args : List LV} {G : LHeap} {K K' : LV → LHeap → Prop} (h : CallL P t args G K) (hk : ∀ v G, K v G → K' v G) : CallL P t args G K' :=
  ⟨h.1, fun c t1 args1 h1 h2 h3 => by
    obtain ⟨m, v1, H', q1, c', v, G', q2, q3, q4, q5, q6⟩ := h.2 c t1 args1 h1 h2 h3
    exact ⟨m, v1, H', q1, c', v, G', q2, q3, q4, q5, hk _ _ q6⟩⟩

/-! ### Contracts: rows that are handed back are new, and the caller's own -/
mutual
def LV.sim (m : Nat) : LV → Bool
  | .bool _ | .u _ | .b _ | .i _ | .int _ _ | .str _ | .nilPtr | .nilSl | .nilMap | .nilFn | .nilIf => true
  | .dy j k => k == 0 && decide (j < m)
  | .agg l => sims m l
  | .tup l => sims m l
  | _ => false
def sims (m : Nat) : List LV → Bool
  | [] => true
  | v :: l => v.sim m && sims m l
end
mutual
/-- Rows by what they are called in a function's own memory. -/
def subV (sel : List LV) : LV → LV
  | .dy j _ => sel.getD j .any
  | .agg l => .agg (subVs sel l)
  | .tup l => .tup (subVs sel l)
  | v => v
def subVs (sel : List LV) : List LV → List LV
  | [] => []
  | v :: l => subV sel v :: subVs sel l
end
def notP (p : Nat) : LV → Prop
  | .dy q _ => q ≠ p
  | _ => True
def SelR (G : LHeap) : List LV → LHeap → Prop
  | [], [] => True
  | .dy p k :: s, .dyn l len esz ver st :: g => ver = 0 ∧ l.all LV.scal = true ∧ (∃ st', G[p]? = some (.dyn l len esz k st')) ∧ st = 0 ∧ (∀ x ∈ s, notP p x) ∧ SelR G s g
  | .nilSl :: s, .dyn l len _ ver st :: g => ver = 0 ∧ st = 0 ∧ l = [] ∧ len = 0 ∧ SelR G s g
  | _, _ => False
def FnS (P : Program) (f : Nat) (args : List LV) (v0 : LV) (G0 : LHeap) : Prop :=
  tgtOk P (.fn f) ∧ v0.sim G0.length = true ∧ (∀ (j : Nat) (ob : LObj), G0[j]? = some ob → ∃ l len esz, ob = .dyn l len esz 0 0 ∧ l.all LV.scal = true) ∧ ∀ (Fz : Nat → Prop) (H : Heap) (args1 : List AV), (∀ o, Fz o → o < H.next) → ARs ⟨[], Fz, H⟩ args args1 →
    ∃ m v1 hd' H', callA P noO m (.fn f) args1 H = .ok v1 H' ∧ HSim ⟨hd', Fz, H'⟩ G0 ∧ AR ⟨hd', Fz, H'⟩ v0 v1 ∧ H.next ≤ H'.next ∧ (∀ o, o < H.next → H'.get o = H.get o) ∧ ∀ o, Own ⟨hd', Fz, H'⟩ G0 o → H.next ≤ o

theorem scals_any {c c' : Cx} : ∀ {l : List LV} {r : List AV}, l.all LV.scal = true → ARs c l r → ARs c' l r
  | [], _, _, .nil => .nil
  | v :: l, _, h, .cons e es => by
    simp only [List.all_cons, Bool.and_eq_true] at h
    refine .cons ?_ (scals_any h.2 es)
    cases v <;> first | (cases h.1; done) | (cases e; constructor)

theorem HSim.empty {Fz : Nat → Prop} {H : Heap} (h : ∀ o, Fz o → o < H.next) : HSim ⟨[], Fz, H⟩ [] :=
  ⟨rfl, h, fun o ⟨p, _, _, _, e, _⟩ => by simp at e, fun o ⟨p, _, _, _, e, _⟩ => by simp at e, fun p _ _ _ e => by simp at e, fun p _ _ _ _ _ _ _ _ e => by simp at e⟩

theorem sel_build {c : Cx} {G : LHeap} (hs : HSim c G) : ∀ {sel : List LV} {G0 : LHeap}, SelR G sel G0 → ∃ hd' : List (Nat × AV), hd'.length = G0.length ∧
    (∀ (j : Nat) (ob : LObj) (k : Nat) (h : AV), G0[j]? = some ob → hd'[j]? = some (k, h) → k = 0 ∧ (∀ c' : Cx, c'.H = c.H → ObR c' 0 h ob) ∧ (∃ l len esz, ob = .dyn l len esz 0 0 ∧ l.all LV.scal = true) ∧
      ((sel[j]? = some .nilSl ∧ h = .nilSl) ∨ ∃ p k', sel[j]? = some (.dy p k') ∧ c.hd[p]? = some (k', h) ∧ (∀ o, idOf h = some o → Own c G o) ∧ ∃ ob1, G[p]? = some ob1 ∧ ob1.live = true)) ∧
    (∀ (i j p k q k' : Nat), sel[i]? = some (.dy p k) → sel[j]? = some (.dy q k') → p = q → i = j)
  | [], [], _ => ⟨[], rfl, fun j ob k h e => by simp at e, fun i j p k q k' e => by simp at e⟩
  | [], _ :: _, h => h.elim
  | s :: sel, [], h => by cases s <;> exact h.elim
  | s :: sel, ob :: G0, h => by
    cases s <;> cases ob <;> first | exact h.elim | skip
    · rename_i l len esz ver st
      obtain ⟨rfl, rfl, rfl, rfl, h⟩ := h
      obtain ⟨hd', q1, q2, q3⟩ := sel_build hs h
      refine ⟨(0, .nilSl) :: hd', by simp [q1], fun j ob k h e1 e2 => ?_, fun i j p k q k' e1 e2 e3 => ?_⟩
      · cases j with
        | zero =>
          simp only [List.getElem?_cons_zero, Option.some.injEq] at e1 e2
          cases e1; cases e2
          exact ⟨rfl, fun c' _ => ⟨rfl, by simp, .inl ⟨rfl, rfl⟩⟩, ⟨_, _, _, rfl, rfl⟩, .inl ⟨rfl, rfl⟩⟩
        | succ j => exact q2 j ob k h (by simpa using e1) (by simpa using e2)
      · cases i with
        | zero => simp at e1
        | succ i => cases j with
          | zero => simp at e2
          | succ j => have := q3 i j p k q k' (by simpa using e1) (by simpa using e2) e3; omega
    · rename_i p k l len esz ver st
      obtain ⟨rfl, hsc, ⟨st', hg⟩, rfl, hne, h⟩ := h
      obtain ⟨hd', q1, q2, q3⟩ := sel_build hs h
      have hp : p < c.hd.length := by rw [hs.len]; exact (List.getElem?_eq_some_iff.1 hg).1
      obtain ⟨k0, h0, e0⟩ : ∃ k h, c.hd[p]? = some (k, h) := ⟨_, _, List.getElem?_eq_getElem hp⟩
      have hob := hs.obj p _ _ _ hg e0
      have hk := hob.1
      subst hk
      have mem_ne : ∀ (j q k' : Nat), sel[j]? = some (.dy q k') → q ≠ p := fun j q k' e => hne _ (List.mem_of_getElem? e)
      refine ⟨(0, h0) :: hd', by simp [q1], fun j ob k h e1 e2 => ?_, fun i j p' k q k' e1 e2 e3 => ?_⟩
      · cases j with
        | zero =>
          simp only [List.getElem?_cons_zero, Option.some.injEq] at e1 e2
          cases e1; cases e2
          refine ⟨rfl, fun c' hc' => ?_, ⟨_, _, _, rfl, hsc⟩, .inr ⟨p, _, rfl, e0, fun o ho => ⟨p, _, _, _, hg, rfl, e0, ho⟩, _, hg, rfl⟩⟩
          obtain ⟨_, r1, r2⟩ := hob
          refine ⟨rfl, r1, ?_⟩
          rcases r2 with r2 | ⟨o, v, room, t, clen, l', r2, r3, r4, r5, r6, r7⟩
          · exact .inl r2
          · exact .inr ⟨o, v, room, t, clen, l', r2, by rw [hc']; exact r3, r4, r5, scals_any hsc r6, r7⟩
        | succ j => exact q2 j ob k h (by simpa using e1) (by simpa using e2)
      · cases i with
        | zero =>
          simp only [List.getElem?_cons_zero, Option.some.injEq] at e1
          cases e1
          cases j with
          | zero => rfl
          | succ j => exact absurd e3.symm (mem_ne j q k' (by simpa using e2))
        | succ i => cases j with
          | zero =>
            simp only [List.getElem?_cons_zero, Option.some.injEq] at e2
            cases e2
            exact absurd e3 (mem_ne i p' k (by simpa using e1))
          | succ j => have := q3 i j p' k q k' (by simpa using e1) (by simpa using e2) e3; omega

mutual
theorem sub_AR {c c' : Cx} {sel : List LV} (hsel : ∀ (j : Nat) (v : LV) (a : AV), sel[j]? = some v → AR c v a → AR c' (.dy j 0) a) (v : LV) (a : AV) (hsim : v.sim sel.length = true) (h : AR c (subV sel v) a) : AR c' v a := by
  cases v with
  | dy j k =>
    simp only [LV.sim, Bool.and_eq_true, beq_iff_eq, decide_eq_true_eq] at hsim
    obtain ⟨rfl, hjl⟩ := hsim
    refine hsel j _ a (List.getElem?_eq_getElem hjl) ?_
    unfold subV at h
    rwa [List.getD_eq_getElem?_getD, List.getElem?_eq_getElem hjl] at h
  | agg l =>
    simp only [LV.sim] at hsim
    simp only [subV] at h
    cases h with
    | agg h => exact .agg (sub_ARs hsel l _ hsim h)
  | tup l =>
    simp only [LV.sim] at hsim
    simp only [subV] at h
    cases h with
    | tup h => exact .tup (sub_ARs hsel l _ hsim h)
  | _ => first | (simp only [LV.sim] at hsim; cases hsim; done) | (simp only [subV] at h; cases h; constructor)
termination_by SizeOf.sizeOf v
theorem sub_ARs {c c' : Cx} {sel : List LV} (hsel : ∀ (j : Nat) (v : LV) (a : AV), sel[j]? = some v → AR c v a → AR c' (.dy j 0) a) (l : List LV) (r : List AV) (hsim : sims sel.length l = true) (h : ARs c (subVs sel l) r) : ARs c' l r := by
  cases l with
  | nil => simp only [subVs] at h; cases h; exact .nil
  | cons v l =>
    simp only [sims, Bool.and_eq_true] at hsim
    simp only [subVs] at h
    cases h with
    | cons e es => exact .cons (sub_AR hsel v _ hsim.1 e) (sub_ARs hsel l _ hsim.2 es)
termination_by SizeOf.sizeOf l
end

/-- A contract out of a function's own run. -/
theorem FnS.mk {f : Nat} {args : List LV} {v0 : LV} {G0 : LHeap} (hsim : v0.sim G0.length = true) (h : CallL P (.fn f) args [] fun v G => ∃ sel, v = subV sel v0 ∧ sel.length = G0.length ∧ SelR G sel G0) (hG : ∀ (j : Nat) (ob : LObj), G0[j]? = some ob → ∃ l len esz, ob = .dyn l len esz 0 0 ∧ l.all LV.scal = true) : FnS P f args v0 G0 := by
  refine ⟨h.1, hsim, hG, fun Fz H args1 hfz ha => ?_⟩
  obtain ⟨m, v1, H', q1, c1, v, G, rfl, q3, q4, q5, sel, rfl, hlen, hr⟩ := h.2 ⟨[], Fz, H⟩ (.fn f) args1 (.empty hfz) rfl ha
  obtain ⟨hd', r1, r2, r3⟩ := sel_build q3 hr
  have hd_of : ∀ (j : Nat) (ob : LObj), G0[j]? = some ob → ∃ k h, hd'[j]? = some (k, h) := fun j ob e => ⟨_, _, List.getElem?_eq_getElem (by rw [r1]; exact (List.getElem?_eq_some_iff.1 e).1)⟩
  have hown : ∀ o, Own ⟨hd', Fz, c1.H⟩ G0 o → Own c1 G o := by
    rintro o ⟨j, ob, k, h, e1, e2, e3, e4⟩
    obtain ⟨_, _, _, s4⟩ := r2 j ob k h e1 e3
    rcases s4 with ⟨_, s4⟩ | ⟨p, k', _, _, s6, _⟩
    · rw [s4] at e4; cases e4
    · exact s6 o e4
  have hnew : ∀ o, Own ⟨hd', Fz, c1.H⟩ G0 o → H.next ≤ o := fun o ho => by
    rcases q4.new o (hown o ho) with ⟨p, _, _, _, e, _⟩ | h
    · simp at e
    · exact h
  have hno : ∀ o, ¬ Own ⟨[], Fz, H⟩ [] o := fun o ⟨p, _, _, _, e, _⟩ => by simp at e
  have hs' : HSim ⟨hd', Fz, c1.H⟩ G0 := by
    refine ⟨r1, fun o ho => Nat.lt_of_lt_of_le (hfz o ho) q4.nx, fun o ho => q3.lt o (hown o ho), fun o ho hf => ?_, fun j ob k h e1 e2 => ?_, fun i j ob ob' k h k' h' o e1 e2 e3 e4 e5 e6 e7 e8 => ?_⟩
    · have := hnew o ho; have := hfz o hf; omega
    · obtain ⟨s1, s2, _⟩ := r2 j ob k h e1 e2
      rw [s1]; exact s2 _ rfl
    · obtain ⟨_, _, _, s4⟩ := r2 i ob k h e1 e5
      obtain ⟨_, _, _, t4⟩ := r2 j ob' k' h' e2 e6
      rcases s4 with ⟨_, s4⟩ | ⟨p, kp, s5, s6, _, o1, g1, g2⟩
      · rw [s4] at e7; cases e7
      · rcases t4 with ⟨_, t4⟩ | ⟨q, kq, t5, t6, _, o2, g3, g4⟩
        · rw [t4] at e8; cases e8
        · refine r3 i j p kp q kq s5 t5 ?_
          exact q3.excl p q o1 o2 kp h kq h' o g1 g3 g2 g4 s6 t6 e7 e8
  refine ⟨m, v1, hd', c1.H, q1, hs', ?_, q4.nx, fun o ho => q4.frame o ho (hno o), hnew⟩
  refine sub_AR (c := c1) (fun j v a e1 e2 => ?_) v0 v1 (by rw [hlen]; exact hsim) q5
  have hj : j < G0.length := by rw [← hlen]; exact (List.getElem?_eq_some_iff.1 e1).1
  obtain ⟨k, h, e3⟩ := hd_of j _ (List.getElem?_eq_getElem hj)
  obtain ⟨rfl, _, _, s4⟩ := r2 j _ k h (List.getElem?_eq_getElem hj) e3
  rcases s4 with ⟨s4, s5⟩ | ⟨p, k', s4, s5, _⟩
  · rw [e1] at s4; cases s4; cases e2
    exact .dy e3 (Nat.le_refl _) (fun _ => s5.symm) rfl
  · rw [e1] at s4; cases s4
    cases e2 with
    | dy f1 f2 f3 f4 =>
      rw [s5] at f1
      cases f1
      exact .dy e3 (Nat.le_refl _) (fun _ => f3 rfl) f4
end fns
end Go.Sv
