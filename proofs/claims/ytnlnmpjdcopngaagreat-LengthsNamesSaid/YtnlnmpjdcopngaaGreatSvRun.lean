/- The evaluator's regions against the machine's steps. -/
import Derived.Test.YtnlnmpjdcopngaaGreatSvCall
import Derived.RangeFuncIn
import Derived.RangeFuncRecord
namespace Go.Sv
open Go.RowKit (Below)

/-- A call is right: of a function, up to where its frame leaves; of yield, up to where the caller goes on. -/
def CallSteps (P : Program) (w0 : World) (C : CM) (w : World) (t : Tgt) (vs : List Value) (v : AV) (H' : Heap) : Prop :=
  match t with
  | .fn f => ∀ cs, ∃ C' w' v' fr, C.le C' ∧ Rel w0 C' H' w' ∧ VR C' v v' ∧ Steps P (lone (Frame.enter P f vs.toArray .normal) cs w) (lone fr cs w') ∧ fr.fn = f ∧ fr.leaving P w' (.returned v')
  | .yield l => ∀ L, C l 0 = some L → ∀ c cs, ∃ C' w' v' f tm a b, C.le C' ∧ Rel w0 C' H' w' ∧ VR C' v v' ∧ (Instr.yield L.b vs.toArray).run P w = .ok (.round L.b f tm a b) w ∧
      Steps P (lone (Frame.round L.b f tm a b .normal) (c :: cs) w) (lone (c.finish v') cs w')
def SoundCall (P : Program) (c : CallT) : Prop :=
  ∀ w0 C H w t args vs v H', Rel w0 C H w → VRs C args vs → c t args H = .ok v H' → CallSteps P w0 C w t vs v H'

theorem noO_sound (P : Program) : SoundCall P noO := fun _ _ _ _ _ _ _ _ _ _ _ h => by cases h

noncomputable def putE (d : Option Tmp) (a : AV) (E : Tr AV) : Tr AV := match d with
  | none => E
  | some d => setP a (pathOf d) E
theorem putF_spec {n : Nat} {d : Option Tmp} {p : PutF} (h : putF n d = some p) : (∀ a E, p.run a E = putE d a E) ∧ ∀ t, d = some t → t < n := by
  unfold putF at h
  split at h
  · cases h; exact ⟨fun _ _ => rfl, fun t e => by cases e⟩
  · split at h
    · rename_i hd; cases h; exact ⟨fun _ _ => rfl, fun t e => by cases e; exact hd⟩
    · cases h

theorem ER.put {n : Nat} {C : CM} {E : Tr AV} {a : Act} (h : ER n C E a.tmps) {d : Option Tmp} (hd : ∀ t, d = some t → t < n) {av : AV} {x : Value} (hv : VR C av x) : ER n C (putE d av E) (a.put d x).tmps := by
  obtain ⟨h1, h2, h3⟩ := h
  cases d with
  | none => exact ⟨h1, h2, h3⟩
  | some d =>
    have hdn : (d : Nat) < n := hd d rfl
    refine ⟨by show (a.tmps.setIfInBounds d x).size = n; simpa using h1, h2, fun t ht => ?_⟩
    show OVR C (getP (pathOf t) (setP av (pathOf d) E)) ((a.tmps.setIfInBounds d x).getD t undef)
    rw [get_set]
    by_cases e : t = d
    · subst e
      rw [if_pos rfl]
      have : (a.tmps.setIfInBounds t x).getD t undef = x := by
        rw [Array.getD_eq_getD_getElem?, Array.getElem?_setIfInBounds_self_of_lt (show t < a.tmps.size by rw [h1]; exact hdn)]; rfl
      rw [this]; exact hv
    · rw [if_neg e]
      have : (a.tmps.setIfInBounds d x).getD t undef = a.tmps.getD t undef := by
        rw [Array.getD_eq_getD_getElem?, Array.getElem?_setIfInBounds_ne (fun q => e q.symm), ← Array.getD_eq_getD_getElem?]
      rw [this]; exact h3 t ht

theorem guardF_spec {n : Nat} {C : CM} {E : Tr AV} {tm : Array Value} (h : ER n C E tm) (ops : Array Oper) (o : Oper) : (guardF ops o).run E = Region.wanted o (yielded ops tm) := by
  obtain ⟨h1, h2, h3⟩ := h
  unfold guardF Region.wanted
  cases hg : o.guard with
  | none => rfl
  | some jw =>
    obtain ⟨j, want⟩ := jw
    dsimp only
    unfold yielded
    cases hd : (ops[j]?).bind (·.dst) with
    | none => rfl
    | some d =>
      dsimp only [Option.bind]
      split
      · rename_i hle
        dsimp only
        have h3' := h3 d hle
        by_cases hdn : d < tm.size
        · have e1 : tm[d]? = some tm[d] := Array.getElem?_eq_getElem hdn
          have e2 : tm.getD d undef = tm[d] := by rw [Array.getD_eq_getD_getElem?, e1]; rfl
          rw [e2] at h3'
          rw [e1]
          generalize tm[d] = v at h3'
          cases hq : getP (pathOf d) E with
          | none =>
            rw [hq] at h3'
            have : v = undef := h3'
            subst this
            rfl
          | some av =>
            rw [hq] at h3'
            have h4 : VR C av v := h3'
            cases h4 with
            | bool b => cases b <;> cases want <;> rfl
            | _ => rfl
        · have e1 : tm[d]? = none := Array.getElem?_eq_none (Nat.le_of_not_lt hdn)
          have e2 : tm.getD d undef = undef := by rw [Array.getD_eq_getD_getElem?, e1]; rfl
          rw [e2] at h3'
          rw [e1]
          cases hq : getP (pathOf d) E with
          | none => rfl
          | some av =>
            rw [hq] at h3'
            have h4 : VR C av undef := h3'
            cases h4
            rfl
      · rename_i hle
        have e1 : tm[d]? = none := Array.getElem?_eq_none (by rw [h1]; exact Nat.le_trans h2 (Nat.le_of_lt (Nat.lt_of_not_le hle)))
        rw [e1]
        rfl

section steps
variable {P : Program} {b : Frame} {a : Act} {k : List Item} {cs : List Frame} {w w' : World} {ops : Array Oper}

theorem fin_at {i : Nat} {rest : List Nat} {o : Oper} (ho : ops[i]? = some o) (v : Value) : (b.atR a (.inRegion ops (i :: rest) :: k)).finish v = b.atR (a.put o.dst v) (.inRegion ops rest :: k) := by
  rw [Frame.finish_atR, ho]; rfl

theorem step_val {i : Nat} {rest : List Nat} {o : Oper} {x : Value} (ho : ops[i]? = some o) (hw : Region.wanted o (yielded ops a.tmps) = true) (hd : ∀ c, o.op ≠ .defer c)
    (hr : (execOp a.eval o).run P w = .ok (.value x) w') :
    step P (lone (b.atR a (.inRegion ops (i :: rest) :: k)) cs w) = .next (lone (b.atR (a.put o.dst x) (.inRegion ops rest :: k)) cs w') := by
  refine step_lone_go ?_
  rw [stepGR_op (b := b) (k := k) (cs := cs) ho hw, Oper.semAt_eq _ _ _ hd, ← fin_at ho]
  simp [stepG.apply, Sem.runT_eq, hr]
theorem step_skp {i : Nat} {rest : List Nat} {o : Oper} (ho : ops[i]? = some o) (hw : Region.wanted o (yielded ops a.tmps) = true) (hd : ∀ c, o.op ≠ .defer c)
    (hr : (execOp a.eval o).run P w = .ok .skip w') :
    step P (lone (b.atR a (.inRegion ops (i :: rest) :: k)) cs w) = .next (lone (b.atR (a.put o.dst undef) (.inRegion ops rest :: k)) cs w') := by
  refine step_lone_go ?_
  rw [stepGR_op (b := b) (k := k) (cs := cs) ho hw, Oper.semAt_eq _ _ _ hd, ← fin_at ho]
  simp [stepG.apply, Sem.runT_eq, hr]
theorem step_enter {i : Nat} {rest : List Nat} {o : Oper} {f : Nat} {args : Array Value} (ho : ops[i]? = some o) (hw : Region.wanted o (yielded ops a.tmps) = true) (hd : ∀ c, o.op ≠ .defer c)
    (hr : (execOp a.eval o).run P w = .ok (.enter f args) w') :
    step P (lone (b.atR a (.inRegion ops (i :: rest) :: k)) cs w) = .next (lone (Frame.enter P f args .normal) (b.atR a (.inRegion ops (i :: rest) :: k) :: cs) w') := by
  refine step_lone_go ?_
  rw [stepGR_op (b := b) (k := k) (cs := cs) ho hw, Oper.semAt_eq _ _ _ hd]
  simp [stepG.apply, Sem.runT_eq, hr, Frame.atR]
theorem step_rnd {i : Nat} {rest : List Nat} {o : Oper} {l f : Nat} {tm : Array Value} {x y : Code} (ho : ops[i]? = some o) (hw : Region.wanted o (yielded ops a.tmps) = true) (hd : ∀ c, o.op ≠ .defer c)
    (hr : (execOp a.eval o).run P w = .ok (.round l f tm x y) w') :
    step P (lone (b.atR a (.inRegion ops (i :: rest) :: k)) cs w) = .next (lone (Frame.round l f tm x y .normal) (b.atR a (.inRegion ops (i :: rest) :: k) :: cs) w') := by
  refine step_lone_go ?_
  rw [stepGR_op (b := b) (k := k) (cs := cs) ho hw, Oper.semAt_eq _ _ _ hd]
  simp [stepG.apply, Sem.runT_eq, hr]
end steps

theorem not_defer {P : Program} {o : Oper} {E : Tr AV} {H : Heap} (h : (compOp P o.op).run E H ≠ .no) : ∀ c, o.op ≠ .defer c := by
  intro c e
  rw [e] at h
  exact h rfl

/-- One operation, whose turn it is. -/
theorem oper_core {P : Program} {c : CallT} (hc : SoundCall P c) {n : Nat} {ops : Array Oper} {i : Nat} {o : Oper} (ho : ops[i]? = some o) {w0 : World} {C : CM} {H H' : Heap} {w : World} {E E' : Tr AV} {a : Act}
    (hR : Rel w0 C H w) (hE : ER n C E a.tmps) (h : (compOper P n ops o).run c E H = .ok E' H') (b : Frame) (rest : List Nat) (k : List Item) (cs : List Frame) :
    ∃ C' w' x av, C.le C' ∧ Rel w0 C' H' w' ∧ VR C' av x ∧ E' = putE o.dst av E ∧ (∀ t, o.dst = some t → t < n) ∧
      Steps P (lone (b.atR a (.inRegion ops (i :: rest) :: k)) cs w) (lone (b.atR (a.put o.dst x) (.inRegion ops rest :: k)) cs w') := by
  unfold compOper at h
  cases hp : putF n o.dst with
  | none => rw [hp] at h; cases h
  | some p =>
    rw [hp] at h
    dsimp only at h
    obtain ⟨hput, hlt⟩ := putF_spec hp
    have hg := guardF_spec hE ops o
    cases hgv : (guardF ops o).run E with
    | false =>
      rw [hgv] at h hg
      cases h
      refine ⟨C, w, undef, undefA, CM.le_refl C, hR, .tup .nil, hput _ _, hlt, .one ?_⟩
      have := stepR_op_skip (P := P) (b := b) (a := a) (k := k) (cs := cs) (w := w) (ops := ops) (i := i) (rest := rest) (by rw [ho]; simpa using hg.symm)
      rw [this, ho]; rfl
    | true =>
      rw [hgv] at h hg
      dsimp only at h
      have hw : Region.wanted o (yielded ops a.tmps) = true := hg.symm
      have hs := op_sound P o w0 C H w E a.eval hR (opd_spec hE)
      cases hr : (compOp P o.op).run E H with
      | no => rw [hr] at h; cases h
      | val v H2 =>
        rw [hr] at h hs
        cases h
        have hnd := not_defer (P := P) (o := o) (E := E) (H := H) (by rw [hr]; intro e; cases e)
        obtain ⟨C', w', x, h1, h2, h3, h4⟩ := hs
        rcases h4 with h4 | ⟨h4, rfl⟩
        · exact ⟨C', w', x, v, h1, h2, h3, hput _ _, hlt, .one (step_val ho hw hnd h4)⟩
        · exact ⟨C', w', undef, v, h1, h2, h3, hput _ _, hlt, .one (step_skp ho hw hnd h4)⟩
      | call t args =>
        rw [hr] at h hs
        dsimp only at h
        have hnd := not_defer (P := P) (o := o) (E := E) (H := H) (by rw [hr]; intro e; cases e)
        cases hcr : c t args H with
        | no => rw [hcr] at h; cases h
        | ok v H2 =>
          rw [hcr] at h
          cases h
          obtain ⟨vs, hv, hcase⟩ := hs
          have hcall := hc _ _ _ _ _ _ _ _ _ hR hv hcr
          rcases hcase with ⟨f, rfl, hrun⟩ | ⟨l, L, rfl, hL, hrun⟩
          · obtain ⟨C', w', v', fr, h1, h2, h3, h4, h5, h6⟩ := hcall (b.atR a (.inRegion ops (i :: rest) :: k) :: cs)
            refine ⟨C', w', v', v, h1, h2, h3, hput _ _, hlt, .head (step_enter ho hw hnd hrun) (Steps.trans h4 (.one ?_))⟩
            rw [step_leave_returned h6, fin_at ho]
          · obtain ⟨C', w', v', f, tm, x, y, h1, h2, h3, h4, h5⟩ := hcall L hL (b.atR a (.inRegion ops (i :: rest) :: k)) cs
            rw [h4] at hrun
            refine ⟨C', w', v', v, h1, h2, h3, hput _ _, hlt, .head (step_rnd ho hw hnd hrun) ?_⟩
            rw [← fin_at ho]; exact h5

/-- Operations in the text's order. -/
theorem ops_sound {P : Program} {c : CallT} (hc : SoundCall P c) {n : Nat} {ops : Array Oper} (b : Frame) (k : List Item) (cs : List Frame) : ∀ (l : List Oper) (i : Nat), ops.toList.drop i = l →
    ∀ {w0 : World} {C : CM} {H H' : Heap} {w : World} {E E' : Tr AV} {a : Act}, Rel w0 C H w → ER n C E a.tmps → (compOps P n ops l).run c E H = .ok E' H' →
    ∃ C' w' a', C.le C' ∧ Rel w0 C' H' w' ∧ ER n C' E' a'.tmps ∧ a'.defers = a.defers ∧
      Steps P (lone (b.atR a (.inRegion ops (List.range' i l.length) :: k)) cs w) (lone (b.atR a' (.inRegion ops [] :: k)) cs w')
  | [], i, hl, w0, C, H, H', w, E, E', a, hR, hE, h => by
    cases h
    exact ⟨C, w, a, CM.le_refl C, hR, hE, rfl, .refl _ _⟩
  | o :: l, i, hl, w0, C, H, H', w, E, E', a, hR, hE, h => by
    have hi : i < ops.toList.length := by
      rcases Nat.lt_or_ge i ops.toList.length with h' | h'
      · exact h'
      · rw [List.drop_eq_nil_of_le h'] at hl; cases hl
    rw [List.drop_eq_getElem_cons hi] at hl
    injection hl with ho hl
    have ho' : ops[i]? = some o := by rw [← ho]; simp at hi ⊢
    unfold compOps at h
    dsimp only at h
    cases h1 : (compOper P n ops o).run c E H with
    | no => rw [h1] at h; cases h
    | ok E1 H1 =>
      rw [h1] at h
      dsimp only at h
      obtain ⟨C1, w1, x, av, q1, q2, q3, q4, q5, q6⟩ := oper_core hc ho' hR hE h1 b (List.range' (i + 1) l.length) k cs
      subst q4
      obtain ⟨C2, w2, a2, r1, r2, r3, r4, r5⟩ := ops_sound hc b k cs l (i + 1) hl (a := a.put o.dst x) q2 ((hE.mono q1).put q5 q3) h
      refine ⟨C2, w2, a2, CM.le_trans q1 r1, r2, r3, ?_, ?_⟩
      · rw [r4]; cases o.dst <;> rfl
      · rw [show (o :: l).length = l.length + 1 from rfl, List.range'_succ]
        exact Steps.trans q6 r5

end Go.Sv
