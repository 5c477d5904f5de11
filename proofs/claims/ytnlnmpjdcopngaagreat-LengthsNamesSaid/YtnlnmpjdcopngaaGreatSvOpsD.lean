/- Each operation of the evaluator's against the model's: equality by type, and operations of one and of two operands. -/
import Derived.Test.YtnlnmpjdcopngaaGreatSvOpsC
namespace Go.Sv
open Go.RowKit (Below)

theorem sub1_spec {C : CM} {l r : List AV} {off n : Nat} (h : sub1 l off n = some r) {vs : Array Value} (hv : VRs C l vs.toList) (h1 : ∀ a ∈ l, a.one = true) :
    VRs C r (vs.extract off (off + n)).toList ∧ (∀ a ∈ r, a.one = true) ∧ r.length = n := by
  unfold sub1 at h
  split at h
  · rename_i hb
    have hb' := Nat.le_of_ble_eq_true hb
    cases h
    have e : (vs.extract off (off + n)).toList = (vs.toList.drop off).take n := by
      rw [Array.toList_extract, List.extract_eq_take_drop, Nat.add_sub_cancel_left]
    refine ⟨by rw [e]; exact (hv.drop off).take n, fun a ha => h1 a (List.mem_of_mem_drop (List.mem_of_mem_take ha)), ?_⟩
    have hle : off + n ≤ l.length := hb'
    simp; omega
  · cases h
theorem partA_spec {P : Program} {w : World} {C : CM} {t : TypeId} {g : Bool} {n : Nat} (hg : aggT P t = some g) (hn : sizeT P t = some n) {l : List AV} {off : Nat} {a : AV} (h : partA g n l off = some a)
    {vs : Array Value} (hv : VRs C l vs.toList) (h1 : ∀ a ∈ l, a.one = true) : ∃ v, (part t vs off).run P w = .ok v w ∧ VR C a v := by
  unfold partA at h
  cases g with
  | true =>
    simp only at h
    cases hs : sub1 l off n with
    | none => rw [hs] at h; cases h
    | some r =>
      rw [hs] at h; cases h
      obtain ⟨k1, k2, _⟩ := sub1_spec hs hv h1
      exact ⟨_, by simp [part, run_isAgg hg, run_size hn], .agg k1 k2⟩
  | false =>
    simp only at h
    obtain ⟨v, q1, q2⟩ := hv.get h
    have q1' : vs[off]? = some v := by simpa using q1
    exact ⟨v, by simp [part, run_isAgg hg, q1'], q2⟩
theorem partT_spec {P : Program} {w : World} {C : CM} {t : TypeId} {l : List AV} {off : Nat} {a : AV} (h : partT P t l off = some a)
    {vs : Array Value} (hv : VRs C l vs.toList) (h1 : ∀ a ∈ l, a.one = true) : ∃ v, (part t vs off).run P w = .ok v w ∧ VR C a v := by
  unfold partT at h
  split at h
  · rename_i g n hg hn; exact partA_spec hg hn h hv h1
  · cases h

theorem fieldsOf_eq {P : Program} {t : TypeId} {fs : Array Field} (h : P.underlying t = some (.struct fs)) : P.fieldsOf t = fs := by simp [Program.fieldsOf, h]

/-- An array's elements, one behind the other. -/
def eqElems (d : Nat) (t : TypeId) (n : Nat) (xs ys : Array Value) : List Nat → Sem Bool
  | [] => pure true
  | i :: l => do
    let a ← part t xs (i * n)
    let b ← part t ys (i * n)
    let r ← Op.equalIn d t a b
    if (!r) = true then pure false else eqElems d t n xs ys l

theorem run_equalIn_array {P : Program} (w : World) (d : Nat) {t e : TypeId} {n s : Nat} (xs ys : Array Value) (ht : P.underlying t = some (.array n e)) (hs : sizeT P e = some s) :
    (Op.equalIn (d + 1) t (.agg xs) (.agg ys)).run P w = (eqElems d e s xs ys (List.range n)).run P w := by
  simp only [Op.equalIn, Sem.run_bind, run_und ht, Result.andThen_ok, run_size hs, Std.Legacy.Range.forIn_eq_forIn_range']
  have : List.range' 0 n = List.range n := List.range_eq_range'.symm
  simp only [Std.Legacy.Range.size, Nat.sub_zero, Nat.add_sub_cancel, Nat.div_one, this]
  generalize List.range n = l
  induction l generalizing w with
  | nil => simp [eqElems]
  | cons i l ih =>
    simp only [List.forIn_cons, eqElems, Sem.run_bind, Sem.run_ite]
    generalize (part e xs (i * s)).run P w = r1
    cases r1 with
    | ok a w1 =>
      simp only [Result.andThen_ok]
      generalize (part e ys (i * s)).run P w1 = r2
      cases r2 with
      | ok b w2 =>
        simp only [Result.andThen_ok]
        generalize (Op.equalIn d e a b).run P w2 = r3
        cases r3 with
        | ok r w3 =>
          cases r
          · simp only [Result.andThen_ok, Bool.not_false, if_true, Sem.run_pure]
          · simp only [Result.andThen_ok, Bool.not_true, Bool.false_eq_true, if_false, Sem.run_pure]
            exact ih w3
        | halt x w3 => simp [Result.andThen]
      | halt x w2 => simp [Result.andThen]
    | halt x w1 => simp [Result.andThen]

theorem eqFs_spec {P : Program} {w : World} {C : CM} {d : Nat} {f : TypeId → AV → AV → Option Bool}
    (hf : ∀ t a b r x y, f t a b = some r → VR C a x → VR C b y → (Op.equalIn d t x y).run P w = .ok r w)
    {xs ys : List AV} {us vs : Array Value} (hx : VRs C xs us.toList) (hx1 : ∀ a ∈ xs, a.one = true) (hy : VRs C ys vs.toList) (hy1 : ∀ a ∈ ys, a.one = true) :
    ∀ {fs : List Field} {r : Bool}, eqFs P f xs ys fs = some r → (Op.eqFields d us vs fs).run P w = .ok r w
  | [], r, h => by cases h; rfl
  | fd :: fs, r, h => by
    unfold eqFs at h
    split at h
    · rename_i hn
      have hn' : fd.name ≠ "_" := by simpa using hn
      split at h
      · rename_i a b ha hb
        obtain ⟨u, q1, q2⟩ := partT_spec (w := w) ha hx hx1
        obtain ⟨v, q3, q4⟩ := partT_spec (w := w) hb hy hy1
        split at h
        · rename_i he
          have := hf _ _ _ _ _ _ he q2 q4
          simp only [Op.eqFields, if_pos hn', Sem.run_bind, q1, q3, this, Result.andThen_ok]
          simpa using eqFs_spec hf hx hx1 hy hy1 h
        · rename_i he
          have := hf _ _ _ _ _ _ he q2 q4
          cases h
          simp only [Op.eqFields, if_pos hn', Sem.run_bind, q1, q3, this, Result.andThen_ok]
          simp
        · cases h
      · cases h
    · rename_i hn
      have hn' : fd.name = "_" := by simpa using hn
      simp only [Op.eqFields, hn', ne_eq, not_true_eq_false, if_false]
      exact eqFs_spec hf hx hx1 hy hy1 h

theorem eqEs_spec {P : Program} {w : World} {C : CM} {d : Nat} {f : TypeId → AV → AV → Option Bool} {t : TypeId} {n : Nat}
    (hf : ∀ t a b r x y, f t a b = some r → VR C a x → VR C b y → (Op.equalIn d t x y).run P w = .ok r w)
    {xs ys : List AV} {us vs : Array Value} (hx : VRs C xs us.toList) (hx1 : ∀ a ∈ xs, a.one = true) (hy : VRs C ys vs.toList) (hy1 : ∀ a ∈ ys, a.one = true) :
    ∀ {l : List Nat} {r : Bool}, eqEs P f t n xs ys l = some r → (eqElems d t n us vs l).run P w = .ok r w
  | [], r, h => by cases h; rfl
  | i :: l, r, h => by
    unfold eqEs at h
    split at h
    · rename_i a b ha hb
      obtain ⟨u, q1, q2⟩ := partT_spec (w := w) ha hx hx1
      obtain ⟨v, q3, q4⟩ := partT_spec (w := w) hb hy hy1
      have q1' : (part t us (i * n)).run P w = .ok u w := q1
      have q3' : (part t vs (i * n)).run P w = .ok v w := q3
      split at h
      · rename_i he
        have := hf _ _ _ _ _ _ he q2 q4
        simp only [eqElems, Sem.run_bind, q1', q3', this, Result.andThen_ok]
        simpa using eqEs_spec hf hx hx1 hy hy1 h
      · rename_i he
        have := hf _ _ _ _ _ _ he q2 q4
        cases h
        simp only [eqElems, Sem.run_bind, q1', q3', this, Result.andThen_ok]
        simp
      · cases h
    · cases h

set_option maxHeartbeats 1000000 in
theorem eqT1_spec {P : Program} {w : World} {C : CM} {d : Nat} {f : TypeId → AV → AV → Option Bool}
    (hf : ∀ t a b r x y, f t a b = some r → VR C a x → VR C b y → (Op.equalIn d t x y).run P w = .ok r w)
    {t : TypeId} {a b : AV} {r : Bool} {x y : Value} (h : eqT1 P f t a b = some r) (hx : VR C a x) (hy : VR C b y) : (Op.equalIn (d + 1) t x y).run P w = .ok r w := by
    unfold eqT1 at h
    split at h
    case h_1 hu => cases h; cases hx; cases hy; simp [Op.equalIn, run_und hu]
    case h_2 hu =>
      split at h
      · rename_i hk; cases h; cases hx; cases hy
        have := kindEq_spec hk
        subst this
        simp [Op.equalIn, run_und hu, eqI_spec]
      · cases h
    case h_3 hu =>
      cases h
      cases hx with
      | str h1 h2 =>
        cases hy with
        | str h3 h4 =>
          subst h1 h2 h3 h4
          rw [← strEq_spec, ← beq_toListBytes]
          simp [Op.equalIn, run_und hu]
    case h_21 hu =>
      split at h
      · cases h
      · rename_i hs
        cases hx with
        | agg hx hx1 =>
          cases hy with
          | agg hy hy1 =>
            rw [run_equalIn_struct w d t _ _ (by rw [fieldsOf_eq hu]; exact hu) (by simpa using hs), fieldsOf_eq hu]
            exact eqFs_spec hf hx hx1 hy hy1 h
    case h_22 hu =>
      split at h
      · rename_i s hs
        cases hx with
        | agg hx hx1 =>
          cases hy with
          | agg hy hy1 =>
            rw [run_equalIn_array w d _ _ hu hs]
            exact eqEs_spec hf hx hx1 hy hy1 h
      · cases h
    case h_23 => cases h
    all_goals
      rename_i hu
      cases h; cases hx; cases hy; simp [Op.equalIn, run_und hu]

theorem eqT_spec {P : Program} {w : World} {C : CM} (d : Nat) : ∀ (n : Nat) (t : TypeId) (a b : AV) (r : Bool) (x y : Value), eqT P n t a b = some r → VR C a x → VR C b y →
    (Op.equalIn (d + n) t x y).run P w = .ok r w
  | 0, _, _, _, _, _, _, h, _, _ => by cases h
  | n + 1, _, _, _, _, _, _, h, hx, hy => eqT1_spec (fun t a b r x y => eqT_spec d n t a b r x y) h hx hy

end Go.Sv
