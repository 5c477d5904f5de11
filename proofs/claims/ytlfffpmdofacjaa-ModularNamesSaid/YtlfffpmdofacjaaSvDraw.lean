/- A region whose order is drawn: whatever the order, it does what the evaluator does in one. -/
import Derived.Test.YtlfffpmdofacjaaSvCanon
import Derived.Orders
namespace Go.Sv

section canon
variable {P : Program} {n : Nat} {ops : Array Oper} {k : CallT} {L : List DOp} {E0 Ef : Tr AV}

def InS (L : List DOp) (S : Nat → Prop) (t : Nat) : Prop := ∃ y ∈ L, S y.i ∧ y.o.dst = some t
open Classical in
/-- The temporaries when those of S are done. -/
noncomputable def EnvOf (L : List DOp) (E0 Ef : Tr AV) (S : Nat → Prop) (t : Nat) : Option AV := if InS L S t then getP (pathOf t) Ef else getP (pathOf t) E0
def bit (m : Nat) (j : Nat) : Prop := m.testBit j = true
def AgreeS (L : List DOp) (E0 Ef : Tr AV) (S : Nat → Prop) (E : Tr AV) : Prop := ∀ t, t ≤ lim → getP (pathOf t) E = EnvOf L E0 Ef S t
def AgreeX (ops : Array Oper) (L : List DOp) (E0 Ef : Tr AV) (x : DOp) (E : Tr AV) : Prop := ∀ t ∈ looks ops x.o, t ≤ lim → getP (pathOf t) E = EnvOf L E0 Ef (bit x.m) t
/-- What an operation does at a heap. -/
def Spec (P : Program) (n : Nat) (ops : Array Oper) (k : CallT) (L : List DOp) (E0 Ef : Tr AV) (x : DOp) (H H' : Heap) : Prop :=
  ∀ E, AgreeX ops L E0 Ef x E → ∃ v, (compOper P n ops x.o).run k E H = .ok (putE x.o.dst v E) H' ∧ ∀ d, x.o.dst = some d → getP (pathOf d) Ef = some v ∧ d < n
def DC (L : List DOp) (S : Nat → Prop) : Prop := ∀ y ∈ L, S y.i → ∀ j, bit y.m j → S j

structure Fit (P : Program) (ops : Array Oper) (L : List DOp) : Prop where
  ok : LOk P ops L
  dst : ∀ x ∈ L, ∀ y ∈ L, ∀ d, x.o.dst = some d → y.o.dst = some d → x = y
  look : ∀ x ∈ L, ∀ y ∈ L, lookOk x y = true

theorem lookOk_spec {x y : DOp} (h : lookOk x y = true) {d : Nat} (hd : y.o.dst = some d) (hl : x.lm.testBit d = true) :
    (x.i = y.i ∧ isRd x = false) ∨ (x.i ≠ y.i ∧ (bit x.m y.i ∨ (bit y.m x.i ∧ isRd x = false))) := by
  unfold lookOk at h
  rw [hd] at h
  dsimp only at h
  rw [hl] at h
  dsimp only at h
  split at h
  · rename_i e
    exact .inl ⟨Nat.eq_of_beq_eq_true e, by simpa using h⟩
  · rename_i e
    refine .inr ⟨fun q => ?_, ?_⟩
    · rw [q, Nat.beq_refl] at e; cases e
    · split at h
      · rename_i q; exact .inl q
      · split at h
        · rename_i q; exact .inr ⟨q, by simpa using h⟩
        · cases h

theorem agree (F : Fit P ops L) {S : Nat → Prop} (hS : DC L S) {x : DOp} (hx : x ∈ L) (hm : ∀ j, bit x.m j → S j) (hn : ¬ S x.i ∨ isRd x = true) {E : Tr AV} (hE : AgreeS L E0 Ef S E) : AgreeX ops L E0 Ef x E := by
  intro t ht hl
  rw [hE t hl]
  unfold EnvOf
  have : InS L S t ↔ InS L (bit x.m) t := by
    constructor
    · rintro ⟨y, hy, hs, hd⟩
      refine ⟨y, hy, ?_, hd⟩
      rcases lookOk_spec (F.look x hx y hy) hd (F.ok.lm x hx t ht) with ⟨e, hr⟩ | ⟨_, h | ⟨h, hr⟩⟩
      · rcases hn with hn | hn
        · rw [e] at hn; exact absurd hs hn
        · rw [hn] at hr; cases hr
      · exact h
      · rcases hn with hn | hn
        · exact absurd (hS y hy hs _ h) hn
        · rw [hn] at hr; cases hr
    · rintro ⟨y, hy, hs, hd⟩
      exact ⟨y, hy, hm _ hs, hd⟩
  by_cases h : InS L S t
  · rw [if_pos h, if_pos (this.1 h)]
  · rw [if_neg h, if_neg (fun q => h (this.2 q))]

theorem AgreeX.same {x : DOp} {E E' : Tr AV} (h : AgreeX ops L E0 Ef x E) (h' : AgreeX ops L E0 Ef x E') : Same (looks ops x.o) E' E := fun t ht hl => by rw [h t ht hl, h' t ht hl]

theorem get_putE (d : Tmp) (v : AV) (E : Tr AV) : getP (pathOf d) (putE (some d) v E) = some v := get_set_same _ _ _

theorem spec_of_run {x : DOp} {E E1 : Tr AV} {H H1 : Heap} (h : (compOper P n ops x.o).run k E H = .ok E1 H1) (hE : AgreeX ops L E0 Ef x E)
    (hf : ∀ d, x.o.dst = some d → d < n → getP (pathOf d) Ef = getP (pathOf d) E1) : Spec P n ops k L E0 Ef x H H1 := by
  obtain ⟨v, h1, h2, h3⟩ := compOper_shape h
  intro E' hE'
  refine ⟨v, h3 E' (hE.same hE'), fun d hd => ⟨?_, h2 d hd⟩⟩
  rw [hf d hd (h2 d hd), h1, hd, get_putE]

theorem AgreeS.put (F : Fit P ops L) (hn : n ≤ lim) {S : Nat → Prop} {E : Tr AV} (h : AgreeS L E0 Ef S E) {x : DOp} (hx : x ∈ L) {v : AV} (hv : ∀ d, x.o.dst = some d → getP (pathOf d) Ef = some v ∧ d < n) :
    AgreeS L E0 Ef (fun j => S j ∨ j = x.i) (putE x.o.dst v E) := by
  intro t ht
  have key : InS L (fun j => S j ∨ j = x.i) t ↔ (InS L S t ∨ x.o.dst = some t) := by
    constructor
    · rintro ⟨y, hy, hs | hs, hd⟩
      · exact .inl ⟨y, hy, hs, hd⟩
      · rw [F.ok.inj y hy x hx hs] at hd; exact .inr hd
    · rintro (⟨y, hy, hs, hd⟩ | hd)
      · exact ⟨y, hy, .inl hs, hd⟩
      · exact ⟨x, hx, .inr rfl, hd⟩
  unfold EnvOf
  cases hd : x.o.dst with
  | none =>
    rw [hd] at key
    have : InS L (fun j => S j ∨ j = x.i) t ↔ InS L S t := by rw [key]; simp
    rw [show putE none v E = E from rfl, h t ht]
    unfold EnvOf
    by_cases q : InS L S t
    · rw [if_pos q, if_pos (this.2 q)]
    · rw [if_neg q, if_neg (fun z => q (this.1 z))]
  | some d =>
    rw [hd] at key
    obtain ⟨hv1, hv2⟩ := hv d hd
    rw [show putE (some d) v E = setP v (pathOf d) E from rfl, get_set (Nat.le_trans (Nat.le_of_lt hv2) hn) ht]
    by_cases e : t = d
    · subst e
      rw [if_pos rfl, if_pos (key.2 (.inr rfl)), hv1]
    · rw [if_neg e, h t ht]
      unfold EnvOf
      have : InS L (fun j => S j ∨ j = x.i) t ↔ InS L S t := by
        rw [key]
        constructor
        · rintro (q | q)
          · exact q
          · exact absurd (Option.some.inj q).symm e
        · exact .inl
      by_cases q : InS L S t
      · rw [if_pos q, if_pos (this.2 q)]
      · rw [if_neg q, if_neg (fun z => q (this.1 z))]

theorem OE_rec_ok {r : OE} {f : Tr AV → Heap → OE} {E' : Tr AV} {H' : Heap} (h : (OE.rec .no f r : OE) = .ok E' H') : ∃ E1 H1, r = .ok E1 H1 ∧ f E1 H1 = .ok E' H' := by
  cases r with
  | no => cases h
  | ok E1 H1 => exact ⟨E1, H1, rfl, h⟩

/-- What a step of the one order is. -/
theorem drawGo_cons {x : DOp} {l pend : List DOp} {E E' : Tr AV} {H H' : Heap} (h : (drawGo P n ops (x :: l) pend).run k E H = .ok E' H') :
    ∃ E1 H1 pend', (compOper P n ops x.o).run k E H = .ok E1 H1 ∧ (drawGo P n ops l pend').run k E1 H1 = .ok E' H' ∧
      ((x.c = .quiet ∧ pend' = pend) ∨ (x.c = .rd ∧ pend' = x :: pend) ∨ (x.c = .ch ∧ pend' = filterB (fun y => !(Nat.testBit x.m y.i)) pend ∧ (rechecks P ops pend').run E1 H1 = true)) := by
  simp only [drawGo] at h
  split at h
  · rename_i hc
    obtain ⟨E1, H1, h1, h2⟩ := OE_rec_ok h
    exact ⟨E1, H1, pend, h1, h2, .inl ⟨hc, rfl⟩⟩
  · rename_i hc
    obtain ⟨E1, H1, h1, h2⟩ := OE_rec_ok h
    exact ⟨E1, H1, x :: pend, h1, h2, .inr (.inl ⟨hc, rfl⟩)⟩
  · rename_i hc
    obtain ⟨E1, H1, h1, h2⟩ := OE_rec_ok h
    cases hr : (rechecks P ops (filterB (fun y => !(Nat.testBit x.m y.i)) pend)).run E1 H1 with
    | false => rw [hr] at h2; cases h2
    | true => rw [hr] at h2; exact ⟨E1, H1, _, h1, h2, .inr (.inr ⟨hc, rfl, hr⟩)⟩

theorem drawGo_frame (hn : n ≤ lim) {d : Nat} (hd : d ≤ lim) : ∀ {l pend : List DOp} {E E' : Tr AV} {H H' : Heap}, (drawGo P n ops l pend).run k E H = .ok E' H' → (∀ y ∈ l, y.o.dst ≠ some d) → getP (pathOf d) E' = getP (pathOf d) E
  | [], _, _, _, _, _, h, _ => by cases h; rfl
  | x :: l, pend, E, E', H, H', h, hy => by
    obtain ⟨E1, H1, pend', h1, h2, _⟩ := drawGo_cons h
    rw [drawGo_frame hn hd h2 (fun y q => hy y (by simp [q]))]
    obtain ⟨v, q1, q2, _⟩ := compOper_shape h1
    rw [q1]
    cases hx : x.o.dst with
    | none => rfl
    | some e =>
      rw [show putE (some e) v E = setP v (pathOf e) E from rfl, get_set_ne (Nat.le_trans (Nat.le_of_lt (q2 e hx)) hn) hd]
      intro q
      subst q
      exact hy x (by simp) hx

theorem rechecks_mem : ∀ {l : List DOp} {E : Tr AV} {H : Heap}, (rechecks P ops l).run E H = true → ∀ x ∈ l, (recheck P ops x).run E H = true
  | [], _, _, _, x, hx => by cases hx
  | y :: l, E, H, h, x, hx => by
    simp only [rechecks] at h
    split at h
    · rename_i hy
      rcases List.mem_cons.1 hx with rfl | hx
      · exact hy
      · exact rechecks_mem h x hx
    · cases h

/-- What was read, and looked at again, is read the same. -/
theorem recheck_spec (F : Fit P ops L) {x : DOp} (hx : x ∈ L) (hr : isRd x = true) {E : Tr AV} {H H1 : Heap} (hE : AgreeX ops L E0 Ef x E) (hs : Spec P n ops k L E0 Ef x H H) (hf : ∀ d, x.o.dst = some d → getP (pathOf d) Ef = getP (pathOf d) E)
    (h : (recheck P ops x).run E H1 = true) : Spec P n ops k L E0 Ef x H1 H1 := by
  have hrd : Reads (compOp P x.o.op) := cls_spec.2 (by rw [← F.ok.cl x hx]; exact isRd_ne hr)
  obtain ⟨v, h1, h2⟩ := hs E hE
  unfold recheck at h
  cases hd : x.o.dst with
  | none => rw [hd] at h; cases h
  | some d =>
    rw [hd] at h h1
    dsimp only at h
    obtain ⟨hv, hdn⟩ := h2 d hd
    have hp : putF n (some d) = some ⟨fun a E => setP a (pathOf d) E⟩ := by unfold putF; dsimp only; rw [if_pos hdn]
    have hrun : (compOper P n ops x.o).run k E H1 = .ok (putE (some d) v E) H1 := by
      unfold compOper at h1 ⊢
      rw [hd, hp] at h1 ⊢
      dsimp only at h1 ⊢
      cases hg : (guardF ops x.o).run E with
      | false =>
        rw [hg] at h1
        dsimp only at h1 ⊢
        injection h1 with h1
        rw [h1]
      | true =>
        rw [hg] at h h1
        dsimp only at h h1 ⊢
        rw [← hf d hd, hv] at h
        dsimp only at h
        have hq := hrd E H1
        cases hc : (compOp P x.o.op).run E H1 with
        | no => rw [hc] at h; cases h
        | call t args => rw [hc] at h; cases h
        | val v' H2 =>
          rw [hc] at h hq
          dsimp only at h ⊢
          cases hq
          rw [eqAV_spec _ _ _ h]
          rfl
    refine spec_of_run hrun hE (fun d' hd' _ => ?_)
    rw [hd] at hd'
    cases hd'
    rw [get_putE, hv]

/-- What the one order shows of every order. -/
theorem canon (F : Fit P ops L) (hn : n ≤ lim) : ∀ (l pend : List DOp) (seen chs s : Nat) (E : Tr AV) (H H' : Heap), (drawGo P n ops l pend).run k E H = .ok Ef H' → topo l seen chs = some s → (∀ x ∈ l, x ∈ L) →
    (∀ x ∈ pend, x ∈ L ∧ isRd x = true ∧ bit seen x.i ∧ Spec P n ops k L E0 Ef x H H) → AgreeS L E0 Ef (bit seen) E → DC L (bit seen) →
    AgreeS L E0 Ef (bit s) Ef ∧ DC L (bit s) ∧
    ∃ Hc : Nat → Heap, Hc 0 = H ∧ Hc (filterB isCh l).length = H' ∧
      (∀ q c, (filterB isCh l)[q]? = some c → Spec P n ops k L E0 Ef c (Hc q) (Hc (q + 1))) ∧
      (∀ x ∈ l, x.c = .rd → ∃ r, r ≤ (filterB isCh l).length ∧ (∀ q c, q < r → (filterB isCh l)[q]? = some c → bit x.m c.i) ∧ ∀ p, r ≤ p → p ≤ (filterB isCh l).length → (∀ q c, r ≤ q → q < p → (filterB isCh l)[q]? = some c → ¬ bit c.m x.i) → Spec P n ops k L E0 Ef x (Hc p) (Hc p)) ∧
      (∀ x ∈ l, x.c = .quiet → ∀ H2, Spec P n ops k L E0 Ef x H2 H2) ∧
      (∀ x ∈ pend, ∀ p, p ≤ (filterB isCh l).length → (∀ q c, q < p → (filterB isCh l)[q]? = some c → ¬ bit c.m x.i) → Spec P n ops k L E0 Ef x (Hc p) (Hc p))
  | [], pend, seen, chs, s, E, H, H', h, ht, hl, hp, hE, hD => by
    cases h
    simp only [topo, Option.some.injEq] at ht
    subst ht
    refine ⟨hE, hD, fun _ => H, rfl, rfl, fun q c hq => (by cases hq), fun x hx => (by cases hx), fun x hx => (by cases hx), fun x hx p _ _ => (hp x hx).2.2.2⟩
  | x :: l, pend, seen, chs, s, E, H, H', h, ht, hl, hp, hE, hD => by
    obtain ⟨E1, H1, pend', h1, h2, h3⟩ := drawGo_cons h
    obtain ⟨t1, t2, t3⟩ := topo_cons ht
    have hx : x ∈ L := hl x (by simp)
    have hxE : AgreeX ops L E0 Ef x E := agree F hD hx t1 (.inl (by unfold bit; rw [t2]; simp)) hE
    have hnew : ∀ y ∈ l, y.i ≠ x.i := by
      have key : ∀ chs', topo l (Nat.lor (2 ^ x.i) seen) chs' = some s → ∀ y ∈ l, y.i ≠ x.i := fun chs' h' y hy e => by
        have := topo_new h' y hy
        rw [testBit_lor, testBit_pow, e] at this
        simp at this
      rcases t3 with ⟨_, h3⟩ | ⟨_, _, h3⟩ | ⟨_, _, h3⟩ <;> exact key _ h3
    obtain ⟨v, s1, s2, s3⟩ := compOper_shape h1
    have hfin : ∀ d, x.o.dst = some d → d < n → getP (pathOf d) Ef = getP (pathOf d) E1 := fun d hd hdn =>
      drawGo_frame hn (Nat.le_trans (Nat.le_of_lt hdn) hn) h2 (fun y hy e => hnew y hy (by rw [F.dst y (hl y (by simp [hy])) x hx d e hd]))
    have hspec : Spec P n ops k L E0 Ef x H H1 := spec_of_run h1 hxE hfin
    have hS : (bit (Nat.lor (2 ^ x.i) seen)) = fun j => bit seen j ∨ j = x.i := by
      funext j
      unfold bit
      rw [testBit_lor, testBit_pow]
      simp only [Bool.or_eq_true, decide_eq_true_eq, eq_iff_iff]
      constructor
      · rintro (e | e)
        · exact .inr e.symm
        · exact .inl e
      · rintro (e | e)
        · exact .inr e
        · exact .inl e.symm
    have hE1 : AgreeS L E0 Ef (bit (Nat.lor (2 ^ x.i) seen)) E1 := by
      rw [hS, s1]
      refine hE.put F hn hx (fun d hd => ⟨?_, s2 d hd⟩)
      rw [hfin d hd (s2 d hd), s1, hd, get_putE]
    have hD1 : DC L (bit (Nat.lor (2 ^ x.i) seen)) := by
      rw [hS]
      rintro y hy (hs | hs) j hj
      · exact .inl (hD y hy hs j hj)
      · rw [F.ok.inj y hy x hx hs] at hj
        exact .inl (t1 j hj)
    have hl' : ∀ y ∈ l, y ∈ L := fun y hy => hl y (by simp [hy])
    have hbit : bit (Nat.lor (2 ^ x.i) seen) x.i := by rw [hS]; exact .inr rfl
    have hmono : ∀ j, bit seen j → bit (Nat.lor (2 ^ x.i) seen) j := fun j hj => by rw [hS]; exact .inl hj
    rcases h3 with ⟨hc, rfl⟩ | ⟨hc, rfl⟩ | ⟨hc, hpe, hre⟩
    · -- quiet
      have ht' : topo l (Nat.lor (2 ^ x.i) seen) chs = some s := by
        rcases t3 with ⟨_, t3⟩ | ⟨e, _⟩ | ⟨e, _⟩
        · exact t3
        · rw [hc] at e; cases e
        · rw [hc] at e; cases e
      have hq : Quiet (compOp P x.o.op) := cls_spec.1 (by rw [← F.ok.cl x hx]; exact hc)
      have hH : H1 = H := compOper_reads hq.reads h1
      subst hH
      have hf : filterB isCh (x :: l) = filterB isCh l := by simp only [filterB]; unfold isCh; rw [hc]
      obtain ⟨r0, r00, Hc, r1, r2, r3, r4, r5, r6⟩ := canon F hn l pend' _ chs s E1 H1 H' h2 ht' hl' (fun y hy => let ⟨a, b, c, d⟩ := hp y hy; ⟨a, b, hmono _ c, d⟩) hE1 hD1
      rw [hf]
      refine ⟨r0, r00, Hc, r1, r2, r3, fun y hy hyc => ?_, fun y hy hyc H2 => ?_, r6⟩
      · rcases List.mem_cons.1 hy with rfl | hy
        · rw [hc] at hyc; cases hyc
        · exact r4 y hy hyc
      · rcases List.mem_cons.1 hy with rfl | hy
        · exact spec_of_run (compOper_quiet hq h1 H2) hxE hfin
        · exact r5 y hy hyc H2
    · -- a read
      have ht' : topo l (Nat.lor (2 ^ x.i) seen) chs = some s := by
        rcases t3 with ⟨e, _⟩ | ⟨_, _, t3⟩ | ⟨e, _⟩
        · rw [hc] at e; cases e
        · exact t3
        · rw [hc] at e; cases e
      have hq : Reads (compOp P x.o.op) := cls_spec.2 (by rw [← F.ok.cl x hx]; exact hc)
      have hH : H1 = H := compOper_reads hq h1
      subst hH
      have hf : filterB isCh (x :: l) = filterB isCh l := by simp only [filterB]; unfold isCh; rw [hc]
      obtain ⟨r0, r00, Hc, r1, r2, r3, r4, r5, r6⟩ := canon F hn l (x :: pend) _ chs s E1 H1 H' h2 ht' hl' (fun y hy => by
        rcases List.mem_cons.1 hy with rfl | hy
        · exact ⟨hx, by unfold isRd; rw [hc], hbit, hspec⟩
        · obtain ⟨a, b, c, d⟩ := hp y hy
          exact ⟨a, b, hmono _ c, d⟩) hE1 hD1
      rw [hf]
      refine ⟨r0, r00, Hc, r1, r2, r3, fun y hy hyc => ?_, fun y hy hyc H2 => ?_, fun y hy => r6 y (by simp [hy])⟩
      · rcases List.mem_cons.1 hy with rfl | hy
        · exact ⟨0, Nat.zero_le _, fun q c hq => absurd hq (Nat.not_lt_zero q), fun p _ hp' hno => r6 y (by simp) p hp' (fun q c hq => hno q c (Nat.zero_le q) hq)⟩
        · exact r4 y hy hyc
      · rcases List.mem_cons.1 hy with rfl | hy
        · rw [hc] at hyc; cases hyc
        · exact r5 y hy hyc H2
    · -- the chain
      obtain ⟨tc, ht'⟩ : (∀ j, chs.testBit j = true → x.m.testBit j = true) ∧ topo l (Nat.lor (2 ^ x.i) seen) (Nat.lor (2 ^ x.i) chs) = some s := by
        rcases t3 with ⟨e, _⟩ | ⟨e, _⟩ | ⟨_, t3⟩
        · rw [hc] at e; cases e
        · rw [hc] at e; cases e
        · exact t3
      have hf : filterB isCh (x :: l) = x :: filterB isCh l := by simp only [filterB]; unfold isCh; rw [hc]
      have hpm : ∀ y ∈ pend', y ∈ pend ∧ ¬ bit x.m y.i := fun y hy => by
        rw [hpe] at hy
        obtain ⟨a, b⟩ := filterB_mem.1 hy
        exact ⟨a, by unfold bit; simpa using b⟩
      obtain ⟨r0, r00, Hc, r1, r2, r3, r4, r5, r6⟩ := canon F hn l pend' _ _ s E1 H1 H' h2 ht' hl' (fun y hy => by
        obtain ⟨a, b, c, d⟩ := hp y (hpm y hy).1
        refine ⟨a, b, hmono _ c, ?_⟩
        refine recheck_spec F a b (agree F hD1 a (fun j hj => hmono j (hD y a c j hj)) (.inr b) hE1) d (fun e he => ?_) (rechecks_mem hre y hy)
        have hle : e ≤ lim := by
          obtain ⟨v', w1, w2⟩ := d E (agree F hD a (fun j hj => hD y a c j hj) (.inr b) hE)
          exact Nat.le_trans (Nat.le_of_lt (w2 e he).2) hn
        rw [hE1 e hle]
        unfold EnvOf
        rw [if_pos ⟨y, a, hmono _ c, he⟩]) hE1 hD1
      rw [hf]
      refine ⟨r0, r00, fun q => match q with
        | 0 => H
        | q + 1 => Hc q, rfl, r2, fun q c hq => ?_, fun y hy hyc => ?_, fun y hy hyc H2 => ?_, fun y hy p hp' hno => ?_⟩
      · cases q with
        | zero =>
          simp only [List.getElem?_cons_zero, Option.some.injEq] at hq
          subst hq
          dsimp only
          rw [r1]
          exact hspec
        | succ q => exact r3 q c (by simpa using hq)
      · rcases List.mem_cons.1 hy with rfl | hy
        · rw [hc] at hyc; cases hyc
        · obtain ⟨r, u0, u1, u2⟩ := r4 y hy hyc
          refine ⟨r + 1, by simp only [List.length_cons]; omega, fun q c hq hqc => ?_, fun p hr hp' hno => ?_⟩
          · cases q with
            | zero =>
              simp only [List.getElem?_cons_zero, Option.some.injEq] at hqc
              subst hqc
              refine topo_chs ht' y hy (by rw [hyc]; exact fun e => by cases e) _ ?_
              rw [testBit_lor, testBit_pow]
              simp
            | succ q => exact u1 q c (by omega) (by simpa using hqc)
          · cases p with
            | zero => omega
            | succ p =>
              simp only [List.length_cons] at hp'
              exact u2 p (by omega) (by omega) (fun q c h5 h6 h7 => hno (q + 1) c (by omega) (by omega) (by simpa using h7))
      · rcases List.mem_cons.1 hy with rfl | hy
        · rw [hc] at hyc; cases hyc
        · exact r5 y hy hyc H2
      · cases p with
        | zero => exact (hp y hy).2.2.2
        | succ p =>
          simp only [List.length_cons] at hp'
          have h0 := hno 0 x (by omega) (by simp)
          refine r6 y ?_ p (by omega) (fun q c h6 h7 => hno (q + 1) c (by omega) (by simpa using h7))
          rw [hpe]
          refine filterB_mem.2 ⟨hy, ?_⟩
          unfold bit at h0
          simpa using h0

/-- The chain is one row. -/
theorem chain_order : ∀ {l : List DOp} {seen chs s : Nat}, topo l seen chs = some s → ∀ (q q' : Nat) (c c' : DOp), q < q' → (filterB isCh l)[q]? = some c → (filterB isCh l)[q']? = some c' → bit c'.m c.i
  | [], _, _, _, _, q, q', c, c', _, h, _ => by simp [filterB] at h
  | x :: l, seen, chs, s, ht, q, q', c, c', hlt, h, h' => by
    obtain ⟨_, _, t3⟩ := topo_cons ht
    rcases t3 with ⟨hc, t⟩ | ⟨hc, _, t⟩ | ⟨hc, _, t⟩
    · have hf : filterB isCh (x :: l) = filterB isCh l := by simp only [filterB]; unfold isCh; rw [hc]
      rw [hf] at h h'
      exact chain_order t q q' c c' hlt h h'
    · have hf : filterB isCh (x :: l) = filterB isCh l := by simp only [filterB]; unfold isCh; rw [hc]
      rw [hf] at h h'
      exact chain_order t q q' c c' hlt h h'
    · have hf : filterB isCh (x :: l) = x :: filterB isCh l := by simp only [filterB]; unfold isCh; rw [hc]
      rw [hf] at h h'
      cases q' with
      | zero => omega
      | succ q' =>
        simp only [List.getElem?_cons_succ] at h'
        cases q with
        | zero =>
          simp only [List.getElem?_cons_zero, Option.some.injEq] at h
          subst h
          obtain ⟨hm, hch⟩ := filterB_mem.1 (List.mem_iff_getElem?.2 ⟨_, h'⟩)
          refine topo_chs t c' hm (by rw [isCh_iff.1 hch]; exact fun e => by cases e) _ ?_
          rw [testBit_lor, testBit_pow]
          simp
        | succ q => exact chain_order t q q' c c' (by omega) (by simpa using h) h'
end canon

end Go.Sv
