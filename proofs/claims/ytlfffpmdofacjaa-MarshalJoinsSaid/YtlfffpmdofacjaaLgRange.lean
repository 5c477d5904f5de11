/- The logic's loops over functions. -/
import Derived.Test.YtlfffpmdofacjaaLgDraw
import Derived.Test.YtlfffpmdofacjaaLgCall
namespace Go.Sv

def setPsL : List Nat → List LV → LEnv → LEnv
  | p :: ps, a :: as, ρ => setPsL ps as ((p, a) :: ρ)
  | _, _, ρ => ρ
theorem setPs_okL {c : Cx} {n : Nat} : ∀ {ps : List Nat} {args : List LV} {args1 : List AV} {ρ : LEnv} {E : Tr AV}, ARs c args args1 → EnvL c ρ E → ps.length = args.length → (∀ p ∈ ps, p < n) → ∃ E1, setPs ps args1 n E = some E1 ∧ EnvL c (setPsL ps args ρ) E1
  | [], [], _, ρ, E, .nil, hE, _, _ => ⟨E, rfl, hE⟩
  | [], _ :: _, _, _, _, _, _, h, _ => by simp at h
  | _ :: _, [], _, _, _, _, _, h, _ => by simp at h
  | p :: ps, a :: as, _, ρ, E, .cons e es, hE, hl, hp => by
    have hb : Nat.blt p n = true := by unfold Nat.blt; exact Nat.ble_eq_true_of_le (hp p (by simp))
    obtain ⟨E1, h1, h2⟩ := setPs_okL (n := n) (ps := ps) es (hE.put e (some p)) (by simpa using hl) (fun q hq => hp q (by simp [hq]))
    refine ⟨E1, ?_, h2⟩
    simp only [setPs]
    rw [hb]
    exact h1

section rules
variable {P : Program} {f n : Nat} {ρ : LEnv} {D : List Nat} {G : LHeap} {Q : Post}

theorem HSim.le_push {c : Cx} (hs : HSim c G) (x : Nat × AV) {H' : Heap} (hfr : ∀ o, o < c.H.next → H'.get o = c.H.get o) : CxLe c ⟨c.hd ++ [x], c.Fz, H'⟩ :=
  ⟨fun p k y e => ⟨k, y, by dsimp only; rw [List.getElem?_append_left (List.getElem?_eq_some_iff.1 e).1]; exact e, Nat.le_refl _, fun _ => rfl, fun _ => rfl⟩, fun o ho => ⟨ho, hfr o (hs.fz o ho)⟩⟩
theorem endLoop_okL {c : Cx} (hs : HSim c G) {p o : Nat} {s : LoopState} {pend : Option Code} {f' n' : Nat} {ρ' : LEnv} {aps : Array Tmp} {ca cb : Code} {d : Nat} (hg : G[p]? = some (.loop s pend f' n' ρ' aps ca cb d)) (e : c.hd[p]? = some (0, .ptr o 0 0)) (hb : s ≠ .busy) :
    ∃ c', endLoopA o c.H = some (pend, c'.H) ∧ HSim c' (G.set p (.loop .exhausted pend f' n' ρ' aps ca cb d)) ∧ Step c G c' (G.set p (.loop .exhausted pend f' n' ρ' aps ca cb d)) := by
  obtain ⟨_, o', od, E, he, q1, q2, q3⟩ := hs.obj p _ _ _ hg e
  injection he with he
  subst he
  obtain ⟨r1, r2, r3⟩ := hs.upd (k' := 0) (x' := .ptr o 0 0) (ob' := .loop .exhausted pend f' n' ρ' aps ca cb d) (H' := c.H.put o (.loop .exhausted pend f' n' E aps ca cb od)) hg rfl e (Nat.le_refl _) (fun o' _ hne => Heap.get_put_ne _ _ (fun q => hne (by rw [q]; rfl)))
    (fun o' e' => by cases e'; exact ⟨.inl rfl, hs.lt o ⟨p, _, _, _, hg, rfl, e, rfl⟩⟩) (Nat.le_refl _) (fun _ => rfl) (fun _ => rfl) (.inr ⟨rfl, Nat.le_refl _⟩)
    (fun hle => ⟨rfl, o, od, E, rfl, hle.fix q1 rfl, Heap.get_put_same _ _ _, q3.mono hle⟩)
  refine ⟨_, ?_, r1, r2⟩
  unfold endLoopA
  rw [q2]
  cases s <;> first | rfl | exact absurd rfl hb

/-- What stands behind a loop over a function. -/
def afterL (l : Nat) (ρ : LEnv) (D : List Nat) (Q : Post) (G2 : LHeap) : Prop := match G2[l]? with
  | some (.loop s pend f' n' ρ' aps ca cb d) => s ≠ .busy ∧ match pend with
    | none => Q .normal ρ D (G2.set l (.loop .exhausted pend f' n' ρ' aps ca cb d))
    | some c => match exOf c with
      | some x => Q x ρ D (G2.set l (.loop .exhausted pend f' n' ρ' aps ca cb d))
      | none => False
  | _ => False

theorem W_range {g : Lx} {ps : List Nat} {a b : LC} {fn' : Nat} {first cap : List LV} (hg : g.ev ρ = .fn (.func fn') first cap)
    (h : ∀ (ca cb : Code) (aps : Array Tmp), resC P n ca = some a.r → resC P n cb = some b.r → aps.toList = ps →
      CallL P (.fn fn') (first ++ [.fn (.yield (G.length + 1)) [] []] ++ cap) (G ++ [.defd true, .loop .ready none f n ρ aps ca cb G.length]) fun _ G2 => afterL (G.length + 1) ρ (G.length :: D) Q G2) :
    W P f n (.rangeF g ps a b) none ρ D G Q := by
  intro code c E D1 ro1 h1 h2 h3 h4 h5 h6
  obtain ⟨cg, aps, ca, cb, rfl, haps, hcg, hca, hcb⟩ := inv_range h1
  simp only [LC.ok, Bool.and_eq_true] at h2
  have hcall := h ca cb aps hca hcb haps
  have hro : ro1 = none := by cases ro1 with
    | none => rfl
    | some _ => exact h6.elim
  subst hro
  have hv := Lx_ok h4 h2.1.1
  have hop := resO_ok hcg (EnvR_ρA E)
  rw [hg] at hv
  generalize g.r.ev (ρA E) = gv at hv hop
  cases hv with
  | @fn _ _ _ first' cap' hl hr =>
    -- the mark and the loop
    obtain ⟨s1, s2, s3⟩ := h3.push (H' := c.H.push (.defd true)) (x := .ptr c.H.next 0 0) (ob := .defd true) (Nat.le_succ _) (fun o ho => Heap.get_push_ne _ _ ho) (fun o e => by cases e; exact ⟨Nat.le_refl _, Nat.lt_succ_self _⟩) ⟨rfl, c.H.next, rfl, Heap.get_push_same _ _⟩
    have hd1 : (c.hd ++ [(0, AV.ptr c.H.next 0 0)])[G.length]? = some (0, .ptr c.H.next 0 0) := by rw [← h3.len]; exact List.getElem?_concat_length
    generalize hc1 : (⟨c.hd ++ [(0, .ptr c.H.next 0 0)], c.Fz, c.H.push (.defd true)⟩ : Cx) = c1 at s1 s2 s3
    have e1 : c1.H = c.H.push (.defd true) := by rw [← hc1]
    have e2 : c1.hd[G.length]? = some (0, .ptr c.H.next 0 0) := by rw [← hc1]; exact hd1
    obtain ⟨t1, t2, t3⟩ := s1.push (H' := c1.H.push (.loop .ready none f n E aps ca cb c.H.next)) (x := .ptr c1.H.next 0 0) (ob := .loop .ready none f n ρ aps ca cb G.length) (Nat.le_succ _) (fun o ho => Heap.get_push_ne _ _ ho) (fun o e => by cases e; exact ⟨Nat.le_refl _, Nat.lt_succ_self _⟩)
      ⟨rfl, c1.H.next, c.H.next, E, rfl, by rw [List.getElem?_append_left (by rw [s1.len]; simp)]; exact e2, Heap.get_push_same _ _, (h4.mono s3).mono (s1.le_push _ (fun o ho => Heap.get_push_ne _ _ ho))⟩
    have hd2 : (c1.hd ++ [(0, AV.ptr c1.H.next 0 0)])[G.length + 1]? = some (0, .ptr c1.H.next 0 0) := by
      have : c1.hd.length = G.length + 1 := by rw [s1.len]; simp
      rw [← this]; exact List.getElem?_concat_length
    generalize hc2 : (⟨c1.hd ++ [(0, .ptr c1.H.next 0 0)], c1.Fz, c1.H.push (.loop .ready none f n E aps ca cb c.H.next)⟩ : Cx) = c2 at t1 t2 t3
    have e3 : c2.H = c1.H.push (.loop .ready none f n E aps ca cb c.H.next) := by rw [← hc2]
    have e4 : c2.hd[G.length + 1]? = some (0, .ptr c1.H.next 0 0) := by rw [← hc2]; exact hd2
    rw [List.append_assoc] at t1 t2
    have hn1 : c1.H.next = c.H.next + 1 := by rw [e1]; rfl
    have hle2 : CxLe c c2 := s3.trans t3
    -- the call
    obtain ⟨m, v1, H', u1, c3, v, G3, rfl, u3, u4, u5, u6⟩ := hcall.2 c2 (.fn fn') (first' ++ [.fn (.yield c1.H.next) [] []] ++ cap') t1 rfl
      (((hl.mono hle2).append (.cons (.yield e4) .nil)).append (hr.mono hle2))
    have e5 : c3.hd[G.length + 1]? = some (0, .ptr c1.H.next 0 0) := u4.le.fix e4 rfl
    have st3 : Step c G c3 G3 := (Step.trans h3 s1 s2 t2 |>.trans h3 t1) u4
    unfold afterL at u6
    split at u6
    · rename_i s pend f' n' ρ' aps' ca' cb' d' hg3
      obtain ⟨hbusy, u6⟩ := u6
      obtain ⟨c4, w1, w2, w3⟩ := endLoop_okL u3 hg3 e5 hbusy
      have hle4 : CxLe c c4 := st3.le.trans w3.le
      have hD : DRs c4 (G.length :: D) (c.H.next :: D1) := .cons (w3.le.fix (u4.le.fix (t3.fix e2 rfl) rfl) rfl) (h5.mono hle4)
      have run : ∀ x, (match pend with | none => some Ex.normal | some cd => exOf cd) = some x → (compCode P f n (.rangeFunc cg aps ca cb)).run (callA P noO m) m none E D1 c.H = .ok x E (c.H.next :: D1) c4.H := by
        intro x hx
        simp only [compCode]
        rw [hop]
        dsimp only
        unfold enterLoopA
        dsimp only
        have hcf : callFn P (.fn (.func fn') first' cap') [.fn (.yield (Nat.add c.H.next 1)) [] []] = .call (.fn fn') (first' ++ [.fn (.yield c1.H.next) [] []] ++ cap') := by
          unfold callFn
          dsimp only
          rw [if_pos hcall.1.1, hn1]
        rw [hcf]
        dsimp only
        have hH2 : (c.H.push (.defd true)).push (.loop .ready none f n E aps ca cb c.H.next) = c2.H := by rw [e3, e1]
        rw [hH2, u1]
        dsimp only
        rw [show Nat.add c.H.next 1 = c1.H.next from hn1.symm, w1]
        cases pend with
        | none => cases hx; rfl
        | some cd => dsimp only at hx ⊢; rw [hx]
      cases pend with
      | none => exact ⟨m, .normal, E, c.H.next :: D1, c4, ρ, G.length :: D, _, run .normal rfl, w2, st3.trans h3 u3 w3, h4.mono hle4, hD, u6⟩
      | some cd =>
        dsimp only at u6
        split at u6
        · rename_i x hx
          exact ⟨m, x, E, c.H.next :: D1, c4, ρ, G.length :: D, _, run x hx, w2, st3.trans h3 u3 w3, h4.mono hle4, hD, u6⟩
        · exact u6.elim
    · exact u6.elim

/-- A round of a loop over a function. -/
theorem CallL_yield {p : Nat} {aps : Array Tmp} {ca cb : Code} {d : Nat} {a b : LC} {args : List LV} {K : LV → LHeap → Prop} (hg : G[p]? = some (.loop .ready none f n ρ aps ca cb d)) (hca : resC P n ca = some a.r) (hcb : resC P n cb = some b.r) (hoka : a.ok = true) (hokb : b.ok = true)
    {ps : List Nat} (hps : aps.toList = ps) (hlen : ps.length = args.length) (hlt : ∀ q ∈ ps, q < n)
    (h : W P f n a (some p) (setPsL ps args ρ) [] G fun x ρ2 D2 G2 => match x with
      | .normal => D2 = [] ∧ G2[p]? = some (.loop .ready none f n ρ aps ca cb d) ∧ W P f n b (some p) ρ2 [] (G2.set p (.loop .busy none f n ρ aps ca cb d)) fun x _ D3 G3 => D3 = [] ∧ match G3[p]? with
        | some (.loop _ _ f' n' ρ' aps' ca' cb' d') => match x with
          | .normal => K (.bool true) (G3.set p (.loop .ready none f' n' ρ' aps' ca' cb' d'))
          | .ret => K (.bool false) (G3.set p (.loop .done (some .ret) f' n' ρ' aps' ca' cb' d'))
          | .exit id => K (.bool false) (G3.set p (.loop .done (some (.exit id)) f' n' ρ' aps' ca' cb' d'))
        | _ => False
      | _ => False) : CallL P (.yield p) args G K := by
  refine ⟨trivial, fun c t1 args1 hs ht ha => ?_⟩
  cases t1 with
  | fn g => exact ht.elim
  | yield o =>
    have e : c.hd[p]? = some (0, .ptr o 0 0) := ht
    obtain ⟨_, o', od, E, he, q1, q2, q3⟩ := hs.obj p _ _ _ hg e
    injection he with he
    subst he
    obtain ⟨E1, r1, r2⟩ := setPs_okL (n := n) ha q3 hlen hlt
    rw [← hps] at r1
    obtain ⟨m, x, E2, D2, c2, ρ2, D2', G2, s1, s2, s3, s4, s5, s6⟩ := h ca c E1 [] (some o) hca hoka hs r2 .nil e
    cases x with
    | exit id => exact s6.elim
    | ret => exact s6.elim
    | normal =>
      obtain ⟨rfl, hg2, s6⟩ := s6
      cases s5
      have e2 := s3.le.fix e rfl
      obtain ⟨_, o', od2, Eo, he, t1, t2, t3⟩ := s2.obj p _ _ _ hg2 e2
      injection he with he
      subst he
      obtain ⟨v1, v2, v3⟩ := s2.upd (k' := 0) (x' := .ptr o 0 0) (ob' := .loop .busy none f n ρ aps ca cb d) (H' := c2.H.put o (.loop .busy none f n Eo aps ca cb od2)) hg2 rfl e2 (Nat.le_refl _) (fun o' _ hne => Heap.get_put_ne _ _ (fun q => hne (by rw [q]; rfl)))
        (fun o' e' => by cases e'; exact ⟨.inl rfl, s2.lt o ⟨p, _, _, _, hg2, rfl, e2, rfl⟩⟩) (Nat.le_refl _) (fun _ => rfl) (fun _ => rfl) (.inr ⟨rfl, Nat.le_refl _⟩)
        (fun hle => ⟨rfl, o, od2, Eo, rfl, hle.fix t1 rfl, Heap.get_put_same _ _ _, t3.mono hle⟩)
      obtain ⟨m3, x, E3, D3, c4, ρ3, D3', G3, w1, w2, w3, w4, w5, rfl, w7⟩ := s6 cb _ E2 [] (some o) hcb hokb v1 (s4.mono v3) .nil (v3.fix e2 rfl)
      cases w5
      have e4 := w3.le.fix (v3.fix e2 rfl) rfl
      have hbeg : beginA o c2.H = some (c2.H.put o (.loop .busy none f n Eo aps ca cb od2)) := by unfold beginA; rw [t2]
      -- the round's end
      split at w7
      · rename_i s' pd f' n' ρ' aps' ca' cb' d' hg3
        obtain ⟨_, o', od3, Ee, he, x1, x2, x3⟩ := w2.obj p _ _ _ hg3 e4
        injection he with he
        subst he
        have fin : ∀ (st' : LoopState) (pd' : Option Code) (bv : Bool), endRoundA o x c4.H = .ok (.bool bv) (c4.H.put o (.loop st' pd' f' n' Ee aps' ca' cb' od3)) → K (.bool bv) (G3.set p (.loop st' pd' f' n' ρ' aps' ca' cb' d')) →
            ∃ m v1 H', callA P noO m (.yield o) args1 c.H = .ok v1 H' ∧ ∃ c' v G', c'.H = H' ∧ HSim c' G' ∧ Step c G c' G' ∧ AR c' v v1 ∧ K v G' := by
          intro st' pd' bv hend hk
          obtain ⟨y1, y2, y3⟩ := w2.upd (k' := 0) (x' := .ptr o 0 0) (ob' := .loop st' pd' f' n' ρ' aps' ca' cb' d') (H' := c4.H.put o (.loop st' pd' f' n' Ee aps' ca' cb' od3)) hg3 rfl e4 (Nat.le_refl _) (fun o' _ hne => Heap.get_put_ne _ _ (fun q => hne (by rw [q]; rfl)))
            (fun o' e' => by cases e'; exact ⟨.inl rfl, w2.lt o ⟨p, _, _, _, hg3, rfl, e4, rfl⟩⟩) (Nat.le_refl _) (fun _ => rfl) (fun _ => rfl) (.inr ⟨rfl, Nat.le_refl _⟩)
            (fun hle => ⟨rfl, o, od3, Ee, rfl, hle.fix x1 rfl, Heap.get_put_same _ _ _, x3.mono hle⟩)
          refine ⟨max m m3 + 1, .bool bv, _, ?_, _, .bool bv, _, rfl, y1, .trans hs w2 (.trans hs v1 (.trans hs s2 s3 v2) w3) y2, .bool bv, hk⟩
          unfold callA
          dsimp only
          rw [q2]
          dsimp only
          rw [r1]
          dsimp only
          rw [compCode_mono (callA_mono (Nat.le_max_left m m3)) (Nat.le_max_left m m3) _ s1]
          dsimp only
          rw [hbeg]
          dsimp only
          rw [compCode_mono (callA_mono (Nat.le_max_right m m3)) (Nat.le_max_right m m3) _ w1]
          exact hend
        have hend : ∀ y, endRoundA o y c4.H = match y with
            | .normal => .ok (.bool true) (c4.H.put o (.loop .ready none f' n' Ee aps' ca' cb' od3))
            | .ret => .ok (.bool false) (c4.H.put o (.loop .done (some .ret) f' n' Ee aps' ca' cb' od3))
            | .exit id => .ok (.bool false) (c4.H.put o (.loop .done (some (.exit id)) f' n' Ee aps' ca' cb' od3)) := fun y => by
          unfold endRoundA
          rw [x2]
          cases y <;> rfl
        cases x with
        | normal => exact fin _ _ _ (hend .normal) w7
        | ret => exact fin _ _ _ (hend .ret) w7
        | exit id => exact fin _ _ _ (hend (.exit id)) w7
      · exact w7.elim
end rules
end Go.Sv
