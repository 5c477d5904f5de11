/- Calls whose own closed runs are known to be right are taken as done: so a great closed run is split. What is handed in and out names nothing in memory. -/
import Derived.Test.YtnlnmpjdcopngaaGreatSvLaw
namespace Go.Sv
open Go.RowKit (Below)

/-- Values that name nothing in memory, and whether two are alike. -/
noncomputable def flat0 : AV → Bool
  | .bool _ => true
  | .int _ _ => true
  | .str _ _ => true
  | .nilSl => true
  | .nilPtr => true
  | _ => false
noncomputable def eqK : IntKind → IntKind → Bool := fun a b => decide (a = b)
noncomputable def eq0 : AV → AV → Bool
  | .bool a, .bool b => a == b
  | .int k n, .int k' n' => decide (n = n') && eqK k k'
  | .str l n, .str l' n' => Nat.beq l l' && Nat.beq n n'
  | .nilSl, .nilSl => true
  | .nilPtr, .nilPtr => true
  | _, _ => false
noncomputable def eqs0 : List AV → List AV → Bool
  | [], [] => true
  | a :: l, b :: r => eq0 a b && eqs0 l r
  | _, _ => false
noncomputable def flats0 : List AV → Bool
  | [] => true
  | a :: l => flat0 a && flats0 l
noncomputable def flatV : AV → Bool
  | .tup l => flats0 l
  | a => flat0 a
noncomputable def eqV : AV → AV → Bool
  | .tup l, .tup r => eqs0 l r
  | a, b => eq0 a b
theorem eq0_ok {a b : AV} (h : eq0 a b = true) : a = b := by
  unfold eq0 at h
  split at h
  · simp at h; rw [h]
  · simp [eqK] at h; rw [h.1, h.2]
  · simp at h; rw [h.1, h.2]
  · rfl
  · rfl
  · cases h
theorem eqs0_ok : ∀ {l r : List AV}, eqs0 l r = true → l = r
  | [], [], _ => rfl
  | a :: l, b :: r, h => by
    simp only [eqs0, Bool.and_eq_true] at h
    rw [eq0_ok h.1, eqs0_ok h.2]
  | [], _ :: _, h => by cases h
  | _ :: _, [], h => by cases h
theorem eqV_ok {a b : AV} (h : eqV a b = true) : a = b := by
  unfold eqV at h
  split at h
  · rw [eqs0_ok h]
  · exact eq0_ok h
theorem VR.any0 {C C' : CM} {a : AV} {v : Value} (h : flat0 a = true) (k : VR C a v) : VR C' a v := by
  cases k with
  | bool b => exact .bool b
  | int k n => exact .int k n
  | str h1 h2 => exact .str h1 h2
  | nilPtr => exact .nilPtr
  | nilSl => exact .nilSl
  | _ => cases h
theorem VRs.any0 {C C' : CM} : ∀ {l : List AV} {r : List Value}, flats0 l = true → VRs C l r → VRs C' l r
  | _, _, _, .nil => .nil
  | _, _, h, .cons e es => by
    simp only [flats0, Bool.and_eq_true] at h
    exact .cons (e.any0 h.1) (VRs.any0 h.2 es)
theorem VR.anyV {C C' : CM} {a : AV} {v : Value} (h : flatV a = true) (k : VR C a v) : VR C' a v := by
  unfold flatV at h
  split at h
  · cases k with
    | tup hs => exact .tup (hs.any0 h)
  · exact k.any0 h
/-- What a function answers at values: from whatever world it is entered, and nothing of what was there turns. -/
structure Fact where
  f : Nat
  args : List AV
  v : AV
def Fact.Right (P : Program) (F : Fact) : Prop := flats0 F.args = true ∧ flatV F.v = true ∧ ∀ (w : World) (C : CM) (vs : List Value), VRs C F.args vs → ∀ cs, ∃ w' fr x, Below w.heap.size w w' ∧ Steps P (lone (Frame.enter P F.f vs.toArray .normal) cs w) (lone fr cs w') ∧ fr.fn = F.f ∧ fr.leaving P w' (.returned x) ∧ VR C F.v x
noncomputable def runF (P : Program) (O : CallT) (m : Nat) (F : Fact) : Bool := match callA P O m (.fn F.f) F.args ⟨.e, 0⟩ with
  | .ok v _ => eqV v F.v && (flats0 F.args && flatV F.v)
  | _ => false
theorem fact_of_run {P : Program} (hm : P.follows .mixedOrders = true) {O : CallT} (hO : SoundCall P O) {m : Nat} {F : Fact} (h : runF P O m F = true) : F.Right P := by
  unfold runF at h
  split at h
  · rename_i v H' hr
    simp only [Bool.and_eq_true] at h
    obtain ⟨h1, h2, h3⟩ := h
    cases eqV_ok h1
    refine ⟨h2, h3, fun w C vs hv cs => ?_⟩
    obtain ⟨C', w', v', fr, k1, k2, k3, k4, k5, k6⟩ := callA_sound hm hO m w _ _ w (.fn F.f) F.args vs _ _ (Rel.start w) (hv.any0 h2) hr cs
    exact ⟨w', fr, v', k2.low, k4, k5, k6, k3.anyV h3⟩
  · cases h
noncomputable def findF (f : Nat) (args : List AV) : List Fact → Option AV
  | [] => none
  | F :: L => if Nat.beq f F.f && eqs0 args F.args then some F.v else findF f args L
noncomputable def factO (L : List Fact) : CallT := fun t args H => match t with
  | .fn f => match findF f args L with
    | some v => .ok v H
    | none => .no
  | _ => .no
theorem findF_ok {f : Nat} {args : List AV} {v : AV} : ∀ {L : List Fact}, findF f args L = some v → ∃ F ∈ L, F.f = f ∧ F.args = args ∧ F.v = v
  | [], h => by cases h
  | F :: L, h => by
    unfold findF at h
    split at h
    · rename_i g
      simp only [Bool.and_eq_true] at g
      cases h
      exact ⟨F, by simp, (Nat.eq_of_beq_eq_true g.1).symm, (eqs0_ok g.2).symm, rfl⟩
    · obtain ⟨F', h1, h2⟩ := findF_ok h
      exact ⟨F', List.mem_cons_of_mem _ h1, h2⟩
theorem Rel.below0 {w0 : World} {C : CM} {H : Heap} {w w' : World} (h : Rel w0 C H w) (hb : Below w.heap.size w w') : Rel w0 C H w' := by
  have hsz : w0.heap.size ≤ w.heap.size := h.low.size
  exact ⟨h.nx, h.low.trans (hb.mono hsz), h.fresh, fun o v L hL => Nat.lt_of_lt_of_le (h.lt o v L hL) hb.size, h.excl,
    fun o ob ho hg => (h.obj o ob ho hg).frame (CM.le_refl C) (fun _ _ hL => hL) (fun v L hL => hb.block _ (h.lt o v L hL)), h.top⟩
theorem factO_sound {P : Program} {L : List Fact} (hL : ∀ F ∈ L, F.Right P) : SoundCall P (factO L) := by
  intro w0 C H w t args vs v H' hR hV hc
  unfold factO at hc
  split at hc
  · rename_i f
    split at hc
    · rename_i v1 hf
      cases hc
      obtain ⟨F, h1, rfl, rfl, rfl⟩ := findF_ok hf
      intro cs
      obtain ⟨w', fr, x, k1, k2, k3, k4, k5⟩ := (hL F h1).2.2 w C vs hV cs
      exact ⟨C, w', x, fr, CM.le_refl C, hR.below0 k1, k5, k2, k3, k4⟩
    · cases hc
  · cases hc
end Go.Sv
