/- The evaluator's code against the machine's steps. -/
import Derived.Test.YtnlnmpjdcopngaaGreatSvSched
namespace Go.Sv
open Go.RowKit (Below)

/-- What is deferred: the marks of loops over functions alone. -/
inductive DR (C : CM) : List Nat → List Deferred → Prop where
  | nil : DR C [] []
  | cons {d : Nat} {L : Loc} {l : List Nat} {r : List Deferred} (h : C d 0 = some L) (hs : DR C l r) : DR C (d :: l) ({ target := .collected L.b, args := #[] } :: r)
theorem DR.mono {C C' : CM} (h : C.le C') : ∀ {l : List Nat} {r : List Deferred}, DR C l r → DR C' l r
  | _, _, .nil => .nil
  | _, _, .cons e es => .cons (h.keep _ _ _ e) (DR.mono h es)
/-- The loop whose round it is. -/
def RO (C : CM) (ro r : Option Nat) : Prop := match ro, r with
  | none, none => True
  | some l, some lb => ∃ L, C l 0 = some L ∧ L.b = lb
  | _, _ => False
theorem RO.mono {C C' : CM} (h : C.le C') {ro r : Option Nat} (k : RO C ro r) : RO C' ro r := by
  cases ro <;> cases r <;> simp only [RO] at k ⊢
  obtain ⟨L, h1, h2⟩ := k
  exact ⟨L, h.keep _ _ _ h1, h2⟩

theorem Rel.putBlock {w0 : World} {C : CM} {H : Heap} {w : World} (h : Rel w0 C H w) {o : Nat} {L : Loc} (hL : C o 0 = some L) {ob : AObj} {x : Obj} (hB : w0.heap.size ≤ L.b) (hone : ∀ c len ver ro, ob ≠ .cells c len ver ro)
    (hob : (w.putObj L.b x).heap[L.b]? = some x → ObjR w0.heap.size C (w.putObj L.b x) o ob) : Rel w0 C (H.put o ob) (w.putObj L.b x) := by
  have hlt := h.lt _ _ _ hL
  refine h.put (h.fresh _ _ _ hL) ob (h.low.trans ⟨rfl, rfl, rfl, by simp, fun k hk => World.putObj_heap_other (by omega)⟩) (by simp) (fun o' v L' hne hL' => World.putObj_heap_other (fun e => hne ?_)) (hob (World.putObj_heap_same hlt)) (fun c len ver ro e => absurd e (hone c len ver ro))
  exact (h.excl _ _ _ _ _ _ hL hL' e.symm hB).symm

theorem run_enterLoop_inner {P : Program} {w : World} {o : Nat} {r : Loop} (h : w.heap[o]? = some (.loop r)) (fn : FuncId) (tmps : Array Value) (ps : Array Tmp) (assign body : Code) :
    (Instr.enterLoop fn tmps ps assign body (some o)).run P w =
      .ok (w.heap.size, []) (w.alloc (.loop { state := .ready, pending := none, fn, tmps, params := ps, assign, body, defers := r.defers })) := by
  unfold Instr.enterLoop
  simp only [Sem.run_bind, run_getLoop h, run_newObj_alloc, Result.andThen, Sem.run_pure]

theorem enterLoop_ok {P : Program} {f n : Nat} {ps : Array Tmp} {as bd : Code} {ro : Option Nat} {E : Tr AV} {D : List Nat} {H : Heap} {l : Nat} {D' : List Nat} {H' : Heap} (h : enterLoopA f n ps as bd ro E D H = some (l, D', H'))
    {w0 : World} {C : CM} {w : World} {tm : Array Value} {ds : List Deferred} {r : Option Nat} (hR : Rel w0 C H w) (hE : ER n C E tm) (hD : DR C D ds) (hro : RO C ro r) :
    ∃ C' w1 mark L, C.le C' ∧ Rel w0 C' H' w1 ∧ (Instr.enterLoop f tm ps as bd r).run P w = .ok (L.b, mark) w1 ∧ C' l 0 = some L ∧ DR C' D' (mark ++ ds) := by
  unfold enterLoopA at h
  · split at h
    · cases h
      cases r with
      | some r => exact hro.elim
      | none =>
        obtain ⟨h1, h2⟩ := hR.push (.defd true) (.deferred (some [])) 0 0 (fun L hL => by
          rw [CM.ext_same] at hL; cases hL
          exact ⟨hR.low.size, heap_alloc_new _ _⟩)
        have hs1 : (C.ext H.next 0 ⟨w.heap.size, 0, 0, 0⟩) H.next 0 = some ⟨w.heap.size, 0, 0, 0⟩ := CM.ext_same _ _ _ _
        generalize C.ext H.next 0 ⟨w.heap.size, 0, 0, 0⟩ = C1 at h1 h2 hs1
        obtain ⟨h3, h4⟩ := h1.push (ob := .loop .ready none f n E ps as bd H.next) (x := .loop { state := .ready, pending := none, fn := f, tmps := tm, params := ps, assign := as, body := bd, defers := w.heap.size }) 0 0 (fun L hL => by
          rw [CM.ext_same] at hL; cases hL
          refine ⟨h1.low.size, tm, ⟨w.heap.size, 0, 0, 0⟩, (CM.le_ext _ (h1.next_none 0) (.inr (Nat.le_of_eq h1.nx))).keep _ _ _ hs1, heap_alloc_new _ _, (hE.mono h2).mono (CM.le_ext _ (h1.next_none 0) (.inr (Nat.le_of_eq h1.nx)))⟩)
        refine ⟨_, _, [{ target := .collected w.heap.size, args := #[] }], ⟨w.heap.size + 1, 0, 0, 0⟩, CM.le_trans h2 h4, h3, ?_, ?_, ?_⟩
        · exact run_enterLoop_outer f tm ps as bd
        · have := CM.ext_same C1 (H.push (.defd true)).next 0 ⟨(w.alloc (.deferred (some []))).heap.size, 0, 0, 0⟩
          rw [World.size_alloc] at this ⊢
          exact this
        · exact .cons (h4.keep _ _ _ hs1) (hD.mono (CM.le_trans h2 h4))
    · rename_i lo
      split at h
      · rename_i d hg
        cases h
        cases r with
        | none => exact hro.elim
        | some r =>
          obtain ⟨Lo, hLo, rfl⟩ := hro
          obtain ⟨hB, tm0, Ld, hd, hw, _⟩ := hR.obj _ _ (hR.fresh _ _ _ hLo) hg Lo hLo
          obtain ⟨h3, h4⟩ := hR.push (ob := .loop .ready none f n E ps as bd d) (x := .loop { state := .ready, pending := none, fn := f, tmps := tm, params := ps, assign := as, body := bd, defers := Ld.b }) 0 0 (fun L hL => by
            rw [CM.ext_same] at hL; cases hL
            exact ⟨hR.low.size, tm, Ld, (CM.le_ext _ (hR.next_none 0) (.inr (Nat.le_of_eq hR.nx))).keep _ _ _ hd, heap_alloc_new _ _, hE.mono (CM.le_ext _ (hR.next_none 0) (.inr (Nat.le_of_eq hR.nx)))⟩)
          refine ⟨_, _, [], ⟨w.heap.size, 0, 0, 0⟩, h4, h3, ?_, CM.ext_same _ _ _ _, hD.mono h4⟩
          exact run_enterLoop_inner hw f tm ps as bd
      · cases h

theorem endLoop_ok {P : Program} {l : Nat} {H H' : Heap} {j : Option Code} (h : endLoopA l H = some (j, H')) {w0 : World} {C : CM} {w : World} (hR : Rel w0 C H w) {L : Loc} (hL : C l 0 = some L) :
    ∃ w', (Instr.endLoop L.b).run P w = .ok j w' ∧ Rel w0 C H' w' := by
  unfold endLoopA at h
  split at h
  · rename_i st pend f n E ps a b d hg
    have key : st ≠ .busy → (some (pend, H.put l (.loop .exhausted pend f n E ps a b d)) = some (j, H')) → ∃ w', (Instr.endLoop L.b).run P w = .ok j w' ∧ Rel w0 C H' w' := fun hst e => by
      cases e
      obtain ⟨hB, tm, Ld, hd, hw, hE⟩ := hR.obj _ _ (hR.fresh _ _ _ hL) hg L hL
      refine ⟨_, run_endLoop hw hst, hR.putBlock hL hB (fun _ _ _ _ e => by cases e) (fun hnew L' hL' => ?_)⟩
      rw [hL] at hL'; cases hL'
      exact ⟨hB, tm, Ld, hd, hnew, hE⟩
    split at h
    · cases h
    · rename_i hne
      exact key (fun e => hne e) h
  · cases h

theorem rangeCall_ok {P : Program} {C : CM} {w : World} {g : AV} {ρ : Operand → Value} {gop : Operand} (hρ : ∀ v, ρ (.const v) = v) (hg : VR C g (ρ gop)) {l : Nat} {L : Loc} (hL : C l 0 = some L) {f : Nat} {args : List AV}
    (h : callFn P g [.fn (.yield l) [] []] = .call (.fn f) args) :
    ∃ d vs, (resolve ρ (rangeCall gop L.b) 0).run P w = .ok d w ∧ (invoke d.target d.args).run P w = .ok (.enter f (List.toArray vs)) w ∧ VRs C args vs := by
  have hy : VRs C [AV.fn (.yield l) [] []] [Value.func (.yield L.b) #[] #[]] := .cons (.fn (.yield hL) .nil .nil) .nil
  generalize hgv : ρ gop = gv at hg
  have hres : ∀ fn first cap, gv = .func fn first cap → (resolve ρ (rangeCall gop L.b) 0).run P w = .ok { target := .fn fn cap, args := first ++ #[Value.func (.yield L.b) #[] #[]] } w := by
    intro fn first cap e
    subst e
    simp only [resolve, hgv, Deferred.ofValue, Sem.run_pure]
    simp [hρ]
  unfold callFn at h
  split at h
  · rename_i f' first cap
    split at h
    · rename_i hc
      cases h
      cases hg with
      | @fn _ g' _ _ l' r' hf hl hr =>
        cases hf with
        | same =>
          refine ⟨_, l'.toList ++ [Value.func (.yield L.b) #[] #[]] ++ r'.toList, hres _ _ _ rfl, ?_, (hl.append hy).append hr⟩
          have : (l' ++ #[Value.func (.yield L.b) #[] #[]] ++ r') = (l'.toList ++ [Value.func (.yield L.b) #[] #[]] ++ r'.toList).toArray := by simp
          rw [← this]
          exact run_callFunc hc _
    · cases h
  · cases h
  · cases h

/-- Where code comes to. -/
def Come (P : Program) (b : Frame) (m : Machine) (cs : List Frame) (kk : List Item) (a' : Act) (w' : World) : Ex → Prop
  | .normal => Steps P m (lone (b.atR a' kk) cs w')
  | .exit id => ∃ k1, exitTo id k1 = exitTo id kk ∧ Steps P m (lone (b.atR a' (.code (.exit id) :: k1)) cs w')
  | .ret => ∃ k1, Steps P m (lone (b.atR a' (.code .ret :: k1)) cs w')
theorem Come.head {P : Program} {b : Frame} {m m1 : Machine} {cs : List Frame} {kk : List Item} {a' : Act} {w' : World} {x : Ex} (h : Steps P m m1) (k : Come P b m1 cs kk a' w' x) : Come P b m cs kk a' w' x := by
  cases x with
  | normal => exact Steps.trans h k
  | exit id => obtain ⟨k1, e, s⟩ := k; exact ⟨k1, e, Steps.trans h s⟩
  | ret => obtain ⟨k1, s⟩ := k; exact ⟨k1, Steps.trans h s⟩

section scope
variable {P : Program} {b : Frame} {a : Act} {k : List Item} {cs : List Frame} {w : World} {c : Code}
theorem stepR_scope : step P (lone (b.atR a (.code (.scope c) :: k)) cs w) = .next (lone (b.atR a (.code c :: .inScope c :: k)) cs w) := step_lone_go (by simp [stepG, stepG.exec, Frame.atR])
theorem stepR_inScope : step P (lone (b.atR a (.inScope c :: k)) cs w) = .next (lone (b.atR a k) cs w) := step_lone_go (by simp [stepG, stepG.exec, Frame.atR])
end scope

/-- A state of both. -/
structure Both (w0 : World) (n : Nat) (C : CM) (E : Tr AV) (D : List Nat) (H : Heap) (a : Act) (w : World) : Prop where
  rel : Rel w0 C H w
  env : ER n C E a.tmps
  defs : DR C D a.defers

/-- A code's meaning is right. -/
def CodeOk (P : Program) (f n : Nat) (cf : CodeF) (c : Code) : Prop :=
  ∀ (k : CallT), SoundCall P k → ∀ (m : Nat) (ro : Option Nat) (w0 : World) (C : CM) (E : Tr AV) (D : List Nat) (H : Heap) (a : Act) (w : World) (b : Frame) (x : Ex) (E' : Tr AV) (D' : List Nat) (H' : Heap),
    Both w0 n C E D H a w → b.fn = f → RO C ro b.roundOf → cf.run k m ro E D H = .ok x E' D' H' → ∀ (kk : List Item) (cs : List Frame),
    ∃ C' w' a', C.le C' ∧ Both w0 n C' E' D' H' a' w' ∧ Come P b (lone (b.atR a (.code c :: kk)) cs w) cs kk a' w' x

theorem compCode_ok {P : Program} (hm : P.follows .mixedOrders = true) (f n : Nat) : ∀ (c : Code), CodeOk P f n (compCode P f n c) c
  | .skip => by
    intro k hk m ro w0 C E D H a w b x E' D' H' hB hf hro h kk cs
    cases h
    exact ⟨C, w, a, CM.le_refl C, hB, .one stepR_skip⟩
  | .label l => by
    intro k hk m ro w0 C E D H a w b x E' D' H' hB hf hro h kk cs
    cases h
    exact ⟨C, w, a, CM.le_refl C, hB, .one stepR_label⟩
  | .exit id => by
    intro k hk m ro w0 C E D H a w b x E' D' H' hB hf hro h kk cs
    cases h
    exact ⟨C, w, a, CM.le_refl C, hB, kk, rfl, .refl _ _⟩
  | .ret => by
    intro k hk m ro w0 C E D H a w b x E' D' H' hB hf hro h kk cs
    cases h
    exact ⟨C, w, a, CM.le_refl C, hB, kk, .refl _ _⟩
  | .region id ops draw => by
    intro k hk m ro w0 C E D H a w b x E' D' H' hB hf hro h kk cs
    simp only [compCode] at h
    cases draw with
    | true =>
      dsimp only at h
      split at h
      · cases h
      · rename_i E1 H1 hr
        cases h
        obtain ⟨C', w', a', q1, q2, q3, q4, q5⟩ := draw_sound hm hk (id := id) hB.rel hB.env hr b kk cs
        exact ⟨C', w', a', q1, ⟨q2, q3, by rw [q4]; exact hB.defs.mono q1⟩, q5⟩
    | false =>
      dsimp only at h
      split at h
      · cases h
      · rename_i E1 H1 hr
        cases h
        obtain ⟨C', w', a', q1, q2, q3, q4, q5⟩ := region_sound hk (id := id) hB.rel hB.env hr b kk cs
        exact ⟨C', w', a', q1, ⟨q2, q3, by rw [q4]; exact hB.defs.mono q1⟩, q5⟩
  | .seq c1 c2 => by
    intro k hk m ro w0 C E D H a w b x E' D' H' hB hf hro h kk cs
    simp only [compCode] at h
    cases h1 : (compCode P f n c1).run k m ro E D H with
    | no => rw [h1] at h; cases h
    | ok x1 E1 D1 H1 =>
      rw [h1] at h
      obtain ⟨C1, w1, a1, q1, q2, q3⟩ := compCode_ok hm f n c1 k hk m ro w0 C E D H a w b x1 E1 D1 H1 hB hf hro h1 (.code c2 :: kk) cs
      cases x1 with
      | normal =>
        dsimp only at h
        obtain ⟨C2, w2, a2, r1, r2, r3⟩ := compCode_ok hm f n c2 k hk m ro w0 C1 E1 D1 H1 a1 w1 b x E' D' H' q2 hf (hro.mono q1) h kk cs
        exact ⟨C2, w2, a2, CM.le_trans q1 r1, r2, r3.head (.head stepR_seq q3)⟩
      | exit id =>
        cases h
        obtain ⟨k1, e, s⟩ := q3
        exact ⟨C1, w1, a1, q1, q2, k1, e, .head stepR_seq s⟩
      | ret =>
        cases h
        obtain ⟨k1, s⟩ := q3
        exact ⟨C1, w1, a1, q1, q2, k1, .head stepR_seq s⟩
  | .cond c c1 c2 => by
    intro k hk m ro w0 C E D H a w b x E' D' H' hB hf hro h kk cs
    simp only [compCode] at h
    split at h
    · rename_i t ht
      have hv := opd_spec hB.env c _ ht
      have hv' : a.eval c = .bool t := by
        generalize a.eval c = v at hv
        cases hv
        rfl
      split at h
      · obtain ⟨C1, w1, a1, q1, q2, q3⟩ := compCode_ok hm f n c1 k hk m ro w0 C E D H a w b x E' D' H' hB hf hro h kk cs
        exact ⟨C1, w1, a1, q1, q2, q3.head (.one (by rw [stepR_cond hv']; rfl))⟩
      · obtain ⟨C1, w1, a1, q1, q2, q3⟩ := compCode_ok hm f n c2 k hk m ro w0 C E D H a w b x E' D' H' hB hf hro h kk cs
        exact ⟨C1, w1, a1, q1, q2, q3.head (.one (by rw [stepR_cond hv']; rfl))⟩
    · cases h
  | .block id c => by
    intro k hk m ro w0 C E D H a w b x E' D' H' hB hf hro h kk cs
    simp only [compCode] at h
    split at h
    · cases h
    · rename_i x1 E1 D1 H1 h1
      obtain ⟨C1, w1, a1, q1, q2, q3⟩ := compCode_ok hm f n c k hk m ro w0 C E D H a w b x1 E1 D1 H1 hB hf hro h1 (.inBlock id :: kk) cs
      cases x1 with
      | normal =>
        cases h
        exact ⟨C1, w1, a1, q1, q2, Steps.head stepR_block (Steps.trans q3 (.one stepR_inBlock))⟩
      | exit id' =>
        dsimp only at h
        obtain ⟨k1, e, s⟩ := q3
        split at h
        · rename_i hid
          cases h
          have hid' : id' = id := Nat.eq_of_beq_eq_true hid
          subst hid'
          refine ⟨C1, w1, a1, q1, q2, Steps.head stepR_block (Steps.trans s (.one (stepR_exit ?_)))⟩
          rw [e]
          simp [exitTo]
        · rename_i hid
          cases h
          refine ⟨C1, w1, a1, q1, q2, k1, ?_, .head stepR_block s⟩
          rw [e]
          have hne : ¬ id = id' := fun q => by subst q; rw [Nat.beq_refl] at hid; cases hid
          simp [exitTo, hne]
      | ret =>
        cases h
        obtain ⟨k1, s⟩ := q3
        exact ⟨C1, w1, a1, q1, q2, k1, .head stepR_block s⟩
  | .scope c => by
    intro k hk m ro w0 C E D H a w b x E' D' H' hB hf hro h kk cs
    simp only [compCode] at h
    obtain ⟨C1, w1, a1, q1, q2, q3⟩ := compCode_ok hm f n c k hk m ro w0 C E D H a w b x E' D' H' hB hf hro h (.inScope c :: kk) cs
    refine ⟨C1, w1, a1, q1, q2, ?_⟩
    cases x with
    | normal => exact Steps.head stepR_scope (Steps.trans q3 (.one stepR_inScope))
    | exit id =>
      obtain ⟨k1, e, s⟩ := q3
      exact ⟨k1, e, .head stepR_scope s⟩
    | ret =>
      obtain ⟨k1, s⟩ := q3
      exact ⟨k1, .head stepR_scope s⟩
  | .loop c => by
    intro k hk m ro w0 C E D H a w b x E' D' H' hB hf hro h kk cs
    simp only [compCode] at h
    have ih := compCode_ok hm f n c
    have key : ∀ (j : Nat) (C : CM) (E : Tr AV) (D : List Nat) (H : Heap) (a : Act) (w : World), Both w0 n C E D H a w → RO C ro b.roundOf → loopA ((compCode P f n c).run k m ro) j E D H = .ok x E' D' H' →
        ∃ C' w' a', C.le C' ∧ Both w0 n C' E' D' H' a' w' ∧ Come P b (lone (b.atR a (.code c :: .inLoop c :: kk)) cs w) cs kk a' w' x := by
      intro j
      induction j with
      | zero => intro C E D H a w _ _ h; cases h
      | succ j ihj =>
        intro C E D H a w hB hro h
        simp only [loopA] at h
        split at h
        · cases h
        · rename_i x1 E1 D1 H1 h1
          obtain ⟨C1, w1, a1, q1, q2, q3⟩ := ih k hk m ro w0 C E D H a w b x1 E1 D1 H1 hB hf hro h1 (.inLoop c :: kk) cs
          cases x1 with
          | normal =>
            dsimp only at h
            obtain ⟨C2, w2, a2, r1, r2, r3⟩ := ihj C1 E1 D1 H1 a1 w1 q2 (hro.mono q1) h
            exact ⟨C2, w2, a2, CM.le_trans q1 r1, r2, r3.head (Steps.trans q3 (.one stepR_inLoop))⟩
          | exit id =>
            cases h
            obtain ⟨k1, e, s⟩ := q3
            exact ⟨C1, w1, a1, q1, q2, k1, e, s⟩
          | ret =>
            cases h
            obtain ⟨k1, s⟩ := q3
            exact ⟨C1, w1, a1, q1, q2, k1, s⟩
    obtain ⟨C1, w1, a1, q1, q2, q3⟩ := key m C E D H a w hB hro h
    exact ⟨C1, w1, a1, q1, q2, q3.head (.one stepR_loop)⟩
  | .rangeFunc g ps as bd => by
    intro k hk m ro w0 C E D H a w b x E' D' H' hB hf hro h kk cs
    simp only [compCode] at h
    split at h
    · cases h
    · rename_i gv hg
      split at h
      · cases h
      · rename_i l D1 H1 he
        obtain ⟨C1, w1, mark, L, q1, q2, q3, q4, q5⟩ := enterLoop_ok (P := P) he hB.rel hB.env hB.defs hro
        split at h
        · rename_i t args hcall
          split at h
          · cases h
          · rename_i v H2 hk2
            obtain ⟨d, vs, s1, s2, s3⟩ := rangeCall_ok (P := P) (w := w1) (ρ := a.eval) (gop := g) (fun _ => rfl) ((opd_spec hB.env g _ hg).mono q1) q4 hcall
            have hsteps := hk _ _ _ _ _ _ _ _ _ q2 s3 hk2 (b.atR { a with defers := mark ++ a.defers } (.inRangeFunc L.b :: kk) :: cs)
            obtain ⟨C2, w2, v', fr, t1, t2, t3, t4, t5, t6⟩ := hsteps
            rw [← hf] at q3
            have st0 := stepR_rangeFunc (P := P) (b := b) (a := a) (k := kk) (cs := cs) (w := w) q3 s1 s2
            have back := step_leave_returned (c := b.atR { a with defers := mark ++ a.defers } (.inRangeFunc L.b :: kk)) (cs := cs) t6
            rw [finish_atR_inRangeFunc] at back
            have hdef : DR C2 D1 ({ a with defers := mark ++ a.defers } : Act).defers := q5.mono t1
            have henv : ER n C2 E ({ a with defers := mark ++ a.defers } : Act).tmps := (hB.env.mono q1).mono t1
            split at h
            · cases h
            · rename_i H3 hend
              cases h
              obtain ⟨w3, u1, u2⟩ := endLoop_ok (P := P) hend t2 (t1.keep _ _ _ q4)
              refine ⟨C2, w3, { a with defers := mark ++ a.defers }, CM.le_trans q1 t1, ⟨u2, henv, hdef⟩, ?_⟩
              refine Steps.head st0 (Steps.trans t4 (.head back (.one ?_)))
              rw [stepR_endRangeFunc u1]
              rfl
            · rename_i c H3 hend
              obtain ⟨w3, u1, u2⟩ := endLoop_ok (P := P) hend t2 (t1.keep _ _ _ q4)
              split at h
              · cases h
              · rename_i x1 hx
                cases h
                have go : Steps P (lone (b.atR a (.code (.rangeFunc g ps as bd) :: kk)) cs w) (lone (b.atR { a with defers := mark ++ a.defers } (.code c :: kk)) cs w3) :=
                  .head st0 (Steps.trans t4 (.head back (.one (by rw [stepR_endRangeFunc u1]; rfl))))
                refine ⟨C2, w3, { a with defers := mark ++ a.defers }, CM.le_trans q1 t1, ⟨u2, henv, hdef⟩, ?_⟩
                unfold exOf at hx
                split at hx
                · cases hx; exact ⟨kk, go⟩
                · cases hx; exact ⟨kk, rfl, go⟩
                · cases hx
        · cases h
  | .goto _ => by
    intro k hk m ro w0 C E D H a w b x E' D' H' hB hf hro h kk cs
    cases h
  | .refuse _ => by
    intro k hk m ro w0 C E D H a w b x E' D' H' hB hf hro h kk cs
    cases h
end Go.Sv
