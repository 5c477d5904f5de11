/- The logic's code: sequences, choices, loops, functions. -/
import Derived.Test.YtlfffpmdofacjaaLgCode
namespace Go.Sv

inductive RC where
  | skip
  | ops (l : List RI)
  | draw (l : List (RI × List (RI × Bool)))
  | seq (a b : RC)
  | cond (c : Ox) (a b : RC)
  | block (id : Nat) (c : RC)
  | loop (c : RC)
  | rangeF (g : Ox) (ps : List Nat) (a b : RC)
  | exit (id : Nat)
  | scope (c : RC)
  | label
  | ret
  | stuck
inductive LC where
  | skip
  | ops (l : List LI)
  | draw (l : List (LI × List (LI × Bool)))
  | seq (a b : LC)
  | cond (c : Lx) (a b : LC)
  | block (id : Nat) (c : LC)
  | loop (c : LC)
  | rangeF (g : Lx) (ps : List Nat) (a b : LC)
  | exit (id : Nat)
  | scope (c : LC)
  | label
  | ret
  | stuck

/-! ### Regions that draw their order -/
noncomputable def memN (t : Nat) : List Nat → Bool
  | [] => false
  | a :: l => match Nat.beq t a with
    | true => true
    | false => memN t l
/-- Does what is written here leave alone what an operation looks at and has given? -/
noncomputable def offOf (ops : Array Oper) (d : Option Nat) (x : DOp) : Bool := match d with
  | none => true
  | some d => match memN d (looks ops x.o) with
    | true => false
    | false => match x.o.dst with
      | none => true
      | some e => !(Nat.beq d e)
noncomputable def isAl (x : DOp) : Bool := match x.c with
  | .al => true
  | _ => false
noncomputable def resCks (P : Program) (n : Nat) (ops : Array Oper) : List DOp → Option (List (RI × Bool))
  | [] => some []
  | x :: l => match resItem P n ops x.o with
    | none => none
    | some r => match resCks P n ops l with
      | none => none
      | some rs => some ((r, isAl x) :: rs)
noncomputable def eqCls : Cls → Cls → Bool
  | .quiet, .quiet => true
  | .rd, .rd => true
  | .al, .al => true
  | .ch, .ch => true
  | _, _ => false
/-- An operation whose value may be looked at anew: it has a place of its own for it. -/
noncomputable def ownDst (ops : Array Oper) (x : DOp) : Bool := match x.o.dst with
  | none => false
  | some d => !(memN d (looks ops x.o))
noncomputable def resGo (P : Program) (n : Nat) (ops : Array Oper) : List DOp → List DOp → Option (List (RI × List (RI × Bool)))
  | [], _ => some []
  | x :: l, pend => match allB (offOf ops x.o.dst) pend && eqCls x.c (cls P x.o.op) with
    | false => none
    | true => match resItem P n ops x.o with
      | none => none
      | some r => match x.c with
        | .quiet => match resGo P n ops l pend with
          | none => none
          | some rs => some ((r, []) :: rs)
        | .rd => match ownDst ops x with
          | false => none
          | true => match resGo P n ops l (x :: pend) with
            | none => none
            | some rs => some ((r, []) :: rs)
        | .al => match ownDst ops x with
          | false => none
          | true => match resCks P n ops pend with
            | none => none
            | some cs => match resGo P n ops l (x :: pend) with
              | none => none
              | some rs => some ((r, cs) :: rs)
        | .ch => match resCks P n ops (filterB (fun y => !(Nat.testBit x.m y.i)) pend) with
          | none => none
          | some cs => match resGo P n ops l (filterB (fun y => !(Nat.testBit x.m y.i)) pend) with
            | none => none
            | some rs => some ((r, cs) :: rs)
noncomputable def resDraw (P : Program) (n : Nat) (ops : Array Oper) : Option (List (RI × List (RI × Bool))) :=
  let L := dops P ops ops.toList [] 0
  let chain := filterB isCh L
  let ord := ordOf L chain
  match drawOk ops.size L ord with
  | true => resGo P n ops ord []
  | false => none

noncomputable def resC (P : Program) (n : Nat) : Code → Option RC
  | .skip => some .skip
  | .region _ ops draw => match draw with
    | true => match resDraw P n ops with
      | none => some .stuck
      | some l => some (.draw l)
    | false => match resItems P n ops ops.toList with
      | none => some .stuck
      | some l => some (.ops l)
  | .seq a b => match resC P n a with
    | none => none
    | some a => match resC P n b with
      | none => none
      | some b => some (.seq a b)
  | .cond c a b => match resO c with
    | none => none
    | some c => match resC P n a with
      | none => none
      | some a => match resC P n b with
        | none => none
        | some b => some (.cond c a b)
  | .block id c => match resC P n c with
    | none => none
    | some c => some (.block id c)
  | .loop c => match resC P n c with
    | none => none
    | some c => some (.loop c)
  | .rangeFunc g ps a b => match resO g with
    | none => none
    | some g => match resC P n a with
      | none => none
      | some a => match resC P n b with
        | none => none
        | some b => some (.rangeF g ps.toList a b)
  | .exit id => some (.exit id)
  | .scope c => match resC P n c with
    | none => none
    | some c => some (.scope c)
  | .label _ => some .label
  | .ret => some .ret
  | _ => some .stuck

noncomputable def rck : List (LI × Bool) → List (RI × Bool)
  | [] => []
  | (x, b) :: l => (x.r, b) :: rck l
noncomputable def rdr : List (LI × List (LI × Bool)) → List (RI × List (RI × Bool))
  | [] => []
  | (x, c) :: l => (x.r, rck c) :: rdr l
noncomputable def LC.r : LC → RC
  | .skip => .skip
  | .ops l => .ops (lis l)
  | .draw l => .draw (rdr l)
  | .seq a b => .seq a.r b.r
  | .cond c a b => .cond c.r a.r b.r
  | .block id c => .block id c.r
  | .loop c => .loop c.r
  | .rangeF g ps a b => .rangeF g.r ps a.r b.r
  | .exit id => .exit id
  | .scope c => .scope c.r
  | .label => .label
  | .ret => .ret
  | .stuck => .stuck
def LC.ok : LC → Bool
  | .ops l => l.all (·.o.ok)
  | .draw l => l.all fun x => x.1.o.ok && x.2.all (·.1.o.ok)
  | .seq a b => a.ok && b.ok
  | .cond c a b => c.ok && a.ok && b.ok
  | .block _ c => c.ok
  | .loop c => c.ok
  | .rangeF g _ a b => g.ok && a.ok && b.ok
  | .scope c => c.ok
  | _ => true

/-! ### What code comes to -/
abbrev Post := Ex → LEnv → List Nat → LHeap → Prop
inductive DRs (c : Cx) : List Nat → List Nat → Prop where
  | nil : DRs c [] []
  | cons {p o : Nat} {l r : List Nat} (h : c.hd[p]? = some (0, .ptr o 0 0)) (hs : DRs c l r) : DRs c (p :: l) (o :: r)
theorem DRs.mono {c c' : Cx} (h : CxLe c c') : ∀ {l r : List Nat}, DRs c l r → DRs c' l r
  | _, _, .nil => .nil
  | _, _, .cons e es => .cons (h.fix e rfl) (DRs.mono h es)
def ROr (c : Cx) : Option Nat → Option Nat → Prop
  | none, none => True
  | some p, some o => c.hd[p]? = some (0, .ptr o 0 0)
  | _, _ => False
theorem ROr.mono {c c' : Cx} (h : CxLe c c') {a b : Option Nat} (k : ROr c a b) : ROr c' a b := by
  cases a <;> cases b <;> first | exact k | exact h.fix k rfl

def W (P : Program) (f n : Nat) (s : LC) (ro : Option Nat) (ρ : LEnv) (D : List Nat) (G : LHeap) (Q : Post) : Prop :=
  ∀ (code : Code) (c : Cx) (E : Tr AV) (D1 : List Nat) (ro1 : Option Nat), resC P n code = some s.r → s.ok = true → HSim c G → EnvL c ρ E → DRs c D D1 → ROr c ro ro1 →
    ∃ m x E' D1' c' ρ' D' G', (compCode P f n code).run (callA P noO m) m ro1 E D1 c.H = .ok x E' D1' c'.H ∧ HSim c' G' ∧ Step c G c' G' ∧ EnvL c' ρ' E' ∧ DRs c' D' D1' ∧ Q x ρ' D' G'

section rules
variable {P : Program} {f n : Nat} {ro : Option Nat} {ρ : LEnv} {D : List Nat} {G : LHeap} {Q : Post}

theorem W.post {s : LC} {Q' : Post} (h : W P f n s ro ρ D G Q) (hq : ∀ x ρ D G, Q x ρ D G → Q' x ρ D G) : W P f n s ro ρ D G Q' := by
  intro code c E D1 ro1 h1 h2 h3 h4 h5 h6
  obtain ⟨m, x, E', D1', c', ρ', D', G', q1, q2, q3, q4, q5, q6⟩ := h code c E D1 ro1 h1 h2 h3 h4 h5 h6
  exact ⟨m, x, E', D1', c', ρ', D', G', q1, q2, q3, q4, q5, hq _ _ _ _ q6⟩
/-- What temporaries held may be forgotten. -/
theorem W.env {s : LC} {ρ' : LEnv} (hρ : ∀ t, lk ρ' t = .any ∨ lk ρ' t = lk ρ t) (h : W P f n s ro ρ' D G Q) : W P f n s ro ρ D G Q := by
  intro code c E D1 ro1 h1 h2 h3 h4 h5 h6
  refine h code c E D1 ro1 h1 h2 h3 (fun t => ?_) h5 h6
  rcases hρ t with e | e
  · rw [e]; exact .any _
  · rw [e]; exact h4 t
theorem inv_skip {code : Code} (h : resC P n code = some .skip) : code = .skip := by
  cases code <;> simp only [resC] at h <;> first | rfl | (repeat' split at h) <;> cases h
theorem inv_ops {code : Code} {l : List RI} (h : resC P n code = some (.ops l)) : ∃ id ops, code = .region id ops false ∧ resItems P n ops ops.toList = some l := by
  cases code <;> simp only [resC] at h <;> (repeat' split at h) <;> cases h
  exact ⟨_, _, rfl, ‹_›⟩
theorem inv_draw {code : Code} {l : List (RI × List (RI × Bool))} (h : resC P n code = some (.draw l)) : ∃ id ops, code = .region id ops true ∧ resDraw P n ops = some l := by
  cases code <;> simp only [resC] at h <;> (repeat' split at h) <;> cases h
  exact ⟨_, _, rfl, ‹_›⟩
theorem inv_seq {code : Code} {a b : RC} (h : resC P n code = some (.seq a b)) : ∃ ca cb, code = .seq ca cb ∧ resC P n ca = some a ∧ resC P n cb = some b := by
  cases code <;> simp only [resC] at h <;> (repeat' split at h) <;> cases h
  exact ⟨_, _, rfl, ‹_›, ‹_›⟩
theorem inv_cond {code : Code} {x : Ox} {a b : RC} (h : resC P n code = some (.cond x a b)) : ∃ cx ca cb, code = .cond cx ca cb ∧ resO cx = some x ∧ resC P n ca = some a ∧ resC P n cb = some b := by
  cases code <;> simp only [resC] at h <;> (repeat' split at h) <;> cases h
  exact ⟨_, _, _, rfl, ‹_›, ‹_›, ‹_›⟩
theorem inv_block {code : Code} {id : Nat} {a : RC} (h : resC P n code = some (.block id a)) : ∃ ca, code = .block id ca ∧ resC P n ca = some a := by
  cases code <;> simp only [resC] at h <;> (repeat' split at h) <;> cases h
  exact ⟨_, rfl, ‹_›⟩
theorem inv_loop {code : Code} {a : RC} (h : resC P n code = some (.loop a)) : ∃ ca, code = .loop ca ∧ resC P n ca = some a := by
  cases code <;> simp only [resC] at h <;> (repeat' split at h) <;> cases h
  exact ⟨_, rfl, ‹_›⟩
theorem inv_range {code : Code} {g : Ox} {ps : List Nat} {a b : RC} (h : resC P n code = some (.rangeF g ps a b)) : ∃ (cg : Operand) (cps : Array Tmp) (ca cb : Code), code = .rangeFunc cg cps ca cb ∧ cps.toList = ps ∧ resO cg = some g ∧ resC P n ca = some a ∧ resC P n cb = some b := by
  cases code <;> simp only [resC] at h <;> (repeat' split at h) <;> cases h
  exact ⟨_, _, _, _, rfl, rfl, ‹_›, ‹_›, ‹_›⟩
theorem inv_exit {code : Code} {id : Nat} (h : resC P n code = some (.exit id)) : code = .exit id := by
  cases code <;> simp only [resC] at h <;> (repeat' split at h) <;> cases h
  rfl
theorem inv_scope {code : Code} {a : RC} (h : resC P n code = some (.scope a)) : ∃ ca, code = .scope ca ∧ resC P n ca = some a := by
  cases code <;> simp only [resC] at h <;> (repeat' split at h) <;> cases h
  exact ⟨_, rfl, ‹_›⟩
theorem inv_label {code : Code} (h : resC P n code = some .label) : ∃ s, code = .label s := by
  cases code <;> simp only [resC] at h <;> (repeat' split at h) <;> cases h
  exact ⟨_, rfl⟩
theorem inv_ret {code : Code} (h : resC P n code = some .ret) : code = .ret := by
  cases code <;> simp only [resC] at h <;> first | rfl | (repeat' split at h) <;> cases h

theorem W_skip (h : Q .normal ρ D G) : W P f n .skip ro ρ D G Q := by
  intro code c E D1 ro1 h1 h2 h3 h4 h5 h6
  obtain rfl := inv_skip h1
  exact ⟨0, .normal, E, D1, c, ρ, D, G, rfl, h3, .refl c G, h4, h5, h⟩
theorem W_label (h : Q .normal ρ D G) : W P f n .label ro ρ D G Q := by
  intro code c E D1 ro1 h1 h2 h3 h4 h5 h6
  obtain ⟨s, rfl⟩ := inv_label h1
  exact ⟨0, .normal, E, D1, c, ρ, D, G, rfl, h3, .refl c G, h4, h5, h⟩
theorem W_exit {id : Nat} (h : Q (.exit id) ρ D G) : W P f n (.exit id) ro ρ D G Q := by
  intro code c E D1 ro1 h1 h2 h3 h4 h5 h6
  obtain rfl := inv_exit h1
  exact ⟨0, .exit id, E, D1, c, ρ, D, G, rfl, h3, .refl c G, h4, h5, h⟩
theorem W_ret (h : Q .ret ρ D G) : W P f n .ret ro ρ D G Q := by
  intro code c E D1 ro1 h1 h2 h3 h4 h5 h6
  obtain rfl := inv_ret h1
  exact ⟨0, .ret, E, D1, c, ρ, D, G, rfl, h3, .refl c G, h4, h5, h⟩
theorem W_scope {s : LC} (h : W P f n s ro ρ D G Q) : W P f n (.scope s) ro ρ D G Q := by
  intro code c E D1 ro1 h1 h2 h3 h4 h5 h6
  obtain ⟨ca, rfl, hca⟩ := inv_scope h1
  exact h ca c E D1 ro1 hca h2 h3 h4 h5 h6
theorem W_ops {l : List LI} (h : OpsL P l ρ G fun ρ' G' => Q .normal ρ' D G') : W P f n (.ops l) ro ρ D G Q := by
  intro code c E D1 ro1 h1 h2 h3 h4 h5 h6
  obtain ⟨id, ops, rfl, hr⟩ := inv_ops h1
  obtain ⟨m, E', c', ρ', G', q1, q2, q3, q4, q5⟩ := OpsL_ok hr h2 h3 h4 h
  refine ⟨m, .normal, E', D1, c', ρ', D, G', ?_, q2, q3, q4, h5.mono q3.le, q5⟩
  simp only [compCode]
  rw [q1]
theorem W_seq {a b : LC} (h : W P f n a ro ρ D G fun x ρ' D' G' => match x with
    | .normal => W P f n b ro ρ' D' G' Q
    | x => Q x ρ' D' G') : W P f n (.seq a b) ro ρ D G Q := by
  intro code c E D1 ro1 h1 h2 h3 h4 h5 h6
  obtain ⟨ca, cb, rfl, ha, hb⟩ := inv_seq h1
  simp only [LC.ok, Bool.and_eq_true] at h2
  obtain ⟨m, x, E', D1', c', ρ', D', G', q1, q2, q3, q4, q5, q6⟩ := h ca c E D1 ro1 ha h2.1 h3 h4 h5 h6
  cases x with
  | normal =>
    obtain ⟨m2, x, E2, D2, c2, ρ2, D2', G2, r1, r2, r3, r4, r5, r6⟩ := q6 cb c' E' D1' ro1 hb h2.2 q2 q4 q5 (h6.mono q3.le)
    refine ⟨max m m2, x, E2, D2, c2, ρ2, D2', G2, ?_, r2, .trans h3 q2 q3 r3, r4, r5, r6⟩
    simp only [compCode]
    rw [compCode_mono (callA_mono (Nat.le_max_left m m2)) (Nat.le_max_left m m2) _ q1]
    exact compCode_mono (callA_mono (Nat.le_max_right m m2)) (Nat.le_max_right m m2) _ r1
  | exit id =>
    refine ⟨m, .exit id, E', D1', c', ρ', D', G', ?_, q2, q3, q4, q5, q6⟩
    simp only [compCode]
    rw [q1]
  | ret =>
    refine ⟨m, .ret, E', D1', c', ρ', D', G', ?_, q2, q3, q4, q5, q6⟩
    simp only [compCode]
    rw [q1]
theorem W_cond {x : Lx} {a b : LC} {t : Bool} (hx : x.ev ρ = .bool t) (ha : t = true → W P f n a ro ρ D G Q) (hb : t = false → W P f n b ro ρ D G Q) : W P f n (.cond x a b) ro ρ D G Q := by
  intro code c E D1 ro1 h1 h2 h3 h4 h5 h6
  obtain ⟨cx, ca, cb, rfl, hcx, hca, hcb⟩ := inv_cond h1
  simp only [LC.ok, Bool.and_eq_true] at h2
  have hv := Lx_ok h4 h2.1.1
  have hE := resO_ok hcx (EnvR_ρA E)
  have hvb : x.r.ev (ρA E) = .bool t := by
    rw [hx] at hv
    generalize x.r.ev (ρA E) = w at hv
    cases hv; rfl
  rw [hvb] at hE
  cases t with
  | true =>
    obtain ⟨m, x, E', D1', c', ρ', D', G', q1, q⟩ := ha rfl ca c E D1 ro1 hca h2.1.2 h3 h4 h5 h6
    refine ⟨m, x, E', D1', c', ρ', D', G', ?_, q⟩
    simp only [compCode]
    rw [hE]
    exact q1
  | false =>
    obtain ⟨m, x, E', D1', c', ρ', D', G', q1, q⟩ := hb rfl cb c E D1 ro1 hcb h2.2 h3 h4 h5 h6
    refine ⟨m, x, E', D1', c', ρ', D', G', ?_, q⟩
    simp only [compCode]
    rw [hE]
    exact q1
theorem W_block {id : Nat} {s : LC} (h : W P f n s ro ρ D G fun x ρ' D' G' => match x with
    | .exit i => if i = id then Q .normal ρ' D' G' else Q (.exit i) ρ' D' G'
    | x => Q x ρ' D' G') : W P f n (.block id s) ro ρ D G Q := by
  intro code c E D1 ro1 h1 h2 h3 h4 h5 h6
  obtain ⟨ca, rfl, hca⟩ := inv_block h1
  obtain ⟨m, x, E', D1', c', ρ', D', G', q1, q2, q3, q4, q5, q6⟩ := h ca c E D1 ro1 hca h2 h3 h4 h5 h6
  cases x with
  | normal =>
    refine ⟨m, .normal, E', D1', c', ρ', D', G', ?_, q2, q3, q4, q5, q6⟩
    simp only [compCode]
    rw [q1]
  | exit i =>
    dsimp only at q6
    by_cases e : i = id
    · rw [if_pos e] at q6
      refine ⟨m, .normal, E', D1', c', ρ', D', G', ?_, q2, q3, q4, q5, q6⟩
      simp only [compCode]
      rw [q1, e]
      dsimp only
      rw [Nat.beq_refl]
    · rw [if_neg e] at q6
      refine ⟨m, .exit i, E', D1', c', ρ', D', G', ?_, q2, q3, q4, q5, q6⟩
      simp only [compCode]
      rw [q1]
      dsimp only
      cases hb : Nat.beq i id with
      | true => exact absurd (Nat.eq_of_beq_eq_true hb) e
      | false => rfl
  | ret =>
    refine ⟨m, .ret, E', D1', c', ρ', D', G', ?_, q2, q3, q4, q5, q6⟩
    simp only [compCode]
    rw [q1]
/-- A loop: a measure falls in each round. -/
theorem W_loop {s : LC} (I : LEnv → List Nat → LHeap → Nat → Prop) {N : Nat} (h0 : I ρ D G N)
    (h : ∀ N ρ D G, I ρ D G N → W P f n s ro ρ D G fun x ρ' D' G' => match x with
      | .normal => ∃ N', N' < N ∧ I ρ' D' G' N'
      | x => Q x ρ' D' G') : W P f n (.loop s) ro ρ D G Q := by
  intro code c E D1 ro1 h1 h2 h3 h4 h5 h6
  obtain ⟨ca, rfl, hca⟩ := inv_loop h1
  have key : ∀ N, ∀ (c : Cx) (E : Tr AV) (D1 : List Nat) (ρ : LEnv) (D : List Nat) (G : LHeap), I ρ D G N → HSim c G → EnvL c ρ E → DRs c D D1 → ROr c ro ro1 →
      ∃ m m' x E' D1' c' ρ' D' G', loopA ((compCode P f n ca).run (callA P noO m) m ro1) m' E D1 c.H = .ok x E' D1' c'.H ∧ HSim c' G' ∧ Step c G c' G' ∧ EnvL c' ρ' E' ∧ DRs c' D' D1' ∧ Q x ρ' D' G' := by
    intro N
    induction N using Nat.strongRecOn with
    | _ N ih =>
      intro c E D1 ρ D G hI h3 h4 h5 h6
      obtain ⟨m, x, E', D1', c', ρ', D', G', q1, q2, q3, q4, q5, q6⟩ := h N ρ D G hI ca c E D1 ro1 hca h2 h3 h4 h5 h6
      cases x with
      | normal =>
        obtain ⟨N', hN, hI'⟩ := q6
        obtain ⟨m2, m2', x, E2, D2, c2, ρ2, D2', G2, r1, r2, r3, r4, r5, r6⟩ := ih N' hN c' E' D1' ρ' D' G' hI' q2 q4 q5 (h6.mono q3.le)
        refine ⟨max m m2, m2' + 1, x, E2, D2, c2, ρ2, D2', G2, ?_, r2, .trans h3 q2 q3 r3, r4, r5, r6⟩
        simp only [loopA]
        rw [compCode_mono (callA_mono (Nat.le_max_left m m2)) (Nat.le_max_left m m2) _ q1]
        exact loopA_mono (fun _ _ _ _ _ _ _ e => compCode_mono (callA_mono (Nat.le_max_right m m2)) (Nat.le_max_right m m2) _ e) (Nat.le_refl _) r1
      | exit id =>
        refine ⟨m, 1, .exit id, E', D1', c', ρ', D', G', ?_, q2, q3, q4, q5, q6⟩
        simp only [loopA]
        rw [q1]
      | ret =>
        refine ⟨m, 1, .ret, E', D1', c', ρ', D', G', ?_, q2, q3, q4, q5, q6⟩
        simp only [loopA]
        rw [q1]
  obtain ⟨m, m', x, E', D1', c', ρ', D', G', q1, q⟩ := key N c E D1 ρ D G h0 h3 h4 h5 h6
  refine ⟨max m m', x, E', D1', c', ρ', D', G', ?_, q⟩
  simp only [compCode]
  exact loopA_mono (fun _ _ _ _ _ _ _ e => compCode_mono (callA_mono (Nat.le_max_left m m')) (Nat.le_max_left m m') _ e) (Nat.le_max_right m m') q1
end rules

/-! ### Functions -/
inductive RRes where
  | tmp (t : Nat)
  | cell1 (t : Nat)
  | cellN (t n : Nat)
noncomputable def resR (P : Program) : ResultVar → Option RRes
  | .tmp t => match Nat.ble t lim with
    | true => some (.tmp t)
    | false => none
  | .cell a t => match Nat.ble a lim with
    | true => match aggT P t, sizeT P t with
      | some true, some n => some (.cellN a n)
      | some false, some _ => some (.cell1 a)
      | _, _ => none
    | false => none
noncomputable def resRs (P : Program) : List ResultVar → Option (List RRes)
  | [] => some []
  | r :: l => match resR P r with
    | none => none
    | some a => match resRs P l with
      | none => none
      | some b => some (a :: b)
structure RF where
  n : Nat
  c : RC
  rs : List RRes
noncomputable def resFn (P : Program) (f : Nat) : Option RF :=
  match callable P f && !(isClone P f) with
  | false => none
  | true => match P.funcs[f]? with
    | none => none
    | some fn => match fn.body with
      | none => none
      | some b => match Nat.ble fn.ntmps lim with
        | false => none
        | true => match resC P fn.ntmps b with
          | none => none
          | some c => match resRs P fn.results.toList with
            | none => none
            | some rs => some ⟨fn.ntmps, c, rs⟩

noncomputable def resL (ρ : LEnv) (G : LHeap) : List RRes → (List LV → Prop) → Prop
  | [], K => K []
  | r :: l, K => match r with
    | .tmp t => resL ρ G l fun vs => K (lk ρ t :: vs)
    | .cell1 t => read1 G (lk ρ t) fun v => resL ρ G l fun vs => K (v :: vs)
    | .cellN t n => readL G (lk ρ t) n fun cs => resL ρ G l fun vs => K (.agg cs :: vs)
def oneL : List LV → LV
  | [v] => v
  | l => .tup l
def argsL : List LV → Nat → LEnv
  | [], _ => []
  | v :: l, i => (i, v) :: argsL l (i + 1)
/-- The marks are taken. -/
def takeL : List Nat → LHeap → (LHeap → Prop) → Prop
  | [], G, K => K G
  | d :: l, G, K => match G[d]? with
    | some (.defd true) => takeL l (G.set d (.defd false)) K
    | _ => False

section fns
variable {P : Program}
theorem resR_ok {c : Cx} {G : LHeap} {ρ : LEnv} {E : Tr AV} (hs : HSim c G) (hE : EnvL c ρ E) : ∀ {l : List ResultVar} {rs : List RRes} {K : List LV → Prop}, resRs P l = some rs → resL ρ G rs K → ∃ vs as, (ressF P l).run E c.H = some as ∧ ARs c vs as ∧ K vs
  | [], rs, K, h, k => by cases h; exact ⟨[], [], rfl, .nil, k⟩
  | r :: l, rs, K, h, k => by
    simp only [resRs] at h
    split at h
    · cases h
    · rename_i a ha
      split at h
      · cases h
      · rename_i b hb
        cases h
        simp only [ressF]
        cases r with
        | tmp t =>
          simp only [resR] at ha
          split at ha
          · rename_i hl
            cases ha
            obtain ⟨vs, as, q1, q2, q3⟩ := resR_ok hs hE hb (show resL ρ G b (fun vs => K (lk ρ t :: vs)) from k)
            have hop : (opd (.tmp t)).run E = some ((getP (pathOf t) E).getD undefA) := by
              unfold opd
              dsimp only
              rw [hl]
              dsimp only
              cases getP (pathOf t) E <;> rfl
            refine ⟨_, _, ?_, .cons (hE t) q2, q3⟩
            simp only [resF]
            rw [hop, q1]
          · cases ha
        | cell t ty =>
          simp only [resR] at ha
          split at ha
          · rename_i hl
            have hop : (opd (.tmp t)).run E = some ((getP (pathOf t) E).getD undefA) := by
              unfold opd
              dsimp only
              rw [hl]
              dsimp only
              cases getP (pathOf t) E <;> rfl
            split at ha
            · rename_i m h1 h2
              cases ha
              obtain ⟨o, v, i, l', cs, p1, p2, p3, p4⟩ := readL_ok hs (hE t) (show readL G (lk ρ t) m (fun cs => resL ρ G b fun vs => K (.agg cs :: vs)) from k)
              obtain ⟨vs, as, q1, q2, q3⟩ := resR_ok hs hE hb p4
              refine ⟨_, _, ?_, .cons (.agg p3) q2, q3⟩
              simp only [Sv.resF, h1, h2]
              rw [hop, p1]
              dsimp only
              rw [p2, q1]
            · rename_i m h1 h2
              cases ha
              obtain ⟨o, v, i, w, bb, p1, p2, p3, p4⟩ := read1_ok hs (hE t) (show read1 G (lk ρ t) (fun v => resL ρ G b fun vs => K (v :: vs)) from k)
              obtain ⟨vs, as, q1, q2, q3⟩ := resR_ok hs hE hb p4
              refine ⟨_, _, ?_, .cons p3 q2, q3⟩
              simp only [Sv.resF, h1, h2]
              rw [hop, p1]
              dsimp only
              rw [p2]
              dsimp only
              rw [q1]
            · cases ha
          · cases ha
end fns
end Go.Sv
