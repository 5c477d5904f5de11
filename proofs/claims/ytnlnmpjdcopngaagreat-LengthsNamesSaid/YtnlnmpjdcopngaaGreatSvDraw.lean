/- A region whose order is drawn: whatever the order, it does what the evaluator does in one. -/
import Derived.Test.YtnlnmpjdcopngaaGreatSvMake
import Derived.Orders
namespace Go.Sv

section canon
variable {P : Program} {n : Nat} {ops : Array Oper} {k : CallT} {L : List DOp} {E0 Ef : Tr AV}

def InS (L : List DOp) (S : Nat → Prop) (t : Nat) : Prop := ∃ y ∈ L, S y.i ∧ y.o.dst = some t
open Classical in
/-- The temporaries when those of S are done. -/
noncomputable def EnvOf (L : List DOp) (E0 Ef : Tr AV) (S : Nat → Prop) (t : Nat) : Option AV := if InS L S t then getP (pathOf t) Ef else getP (pathOf t) E0
def bit (m : Nat) (j : Nat) : Prop := m.testBit j = true
def AgreeS (L : List DOp) (E0 Ef : Tr AV) (S : Nat → Prop) (E : Tr AV) : Prop := ∀ t, t ≤ lim → getP (pathOf t) E = EnvOf L E0 Ef S t
def AgreeX (ops : Array Oper) (L : List DOp) (E0 Ef : Tr AV) (x : DOp) (E : Tr AV) : Prop := ∀ t ∈ looks ops x.o, t ≤ lim → getP (pathOf t) E = EnvOf L E0 Ef (bit x.m) t
/-- What an operation does at a heap. -/
def Spec (P : Program) (n : Nat) (ops : Array Oper) (k : CallT) (L : List DOp) (E0 Ef : Tr AV) (x : DOp) (H H' : Heap) : Prop :=
  ∀ E, AgreeX ops L E0 Ef x E → ∃ v, (compOper P n ops x.o).run k E H = .ok (putE x.o.dst v E) H' ∧ ∀ d, x.o.dst = some d → getP (pathOf d) Ef = some v ∧ d < n
def DC (L : List DOp) (S : Nat → Prop) : Prop := ∀ y ∈ L, S y.i → ∀ j, bit y.m j → S j

structure Fit (P : Program) (ops : Array Oper) (L : List DOp) : Prop where
  ok : LOk P ops L
  dst : ∀ x ∈ L, ∀ y ∈ L, ∀ d, x.o.dst = some d → y.o.dst = some d → x = y
  look : ∀ x ∈ L, ∀ y ∈ L, lookOk x y = true

theorem lookOk_spec {x y : DOp} (h : lookOk x y = true) {d : Nat} (hd : y.o.dst = some d) (hl : x.lm.testBit d = true) :
    (x.i = y.i ∧ isRd x = false) ∨ (x.i ≠ y.i ∧ (bit x.m y.i ∨ (bit y.m x.i ∧ isRd x = false))) := by
  unfold lookOk at h
  rw [hd] at h
  dsimp only at h
  rw [hl] at h
  dsimp only at h
  split at h
  · rename_i e
    exact .inl ⟨Nat.eq_of_beq_eq_true e, by simpa using h⟩
  · rename_i e
    refine .inr ⟨fun q => ?_, ?_⟩
    · rw [q, Nat.beq_refl] at e; cases e
    · split at h
      · rename_i q; exact .inl q
      · split at h
        · rename_i q; exact .inr ⟨q, by simpa using h⟩
        · cases h

theorem agree (F : Fit P ops L) {S : Nat → Prop} (hS : DC L S) {x : DOp} (hx : x ∈ L) (hm : ∀ j, bit x.m j → S j) (hn : ¬ S x.i ∨ isRd x = true) {E : Tr AV} (hE : AgreeS L E0 Ef S E) : AgreeX ops L E0 Ef x E := by
  intro t ht hl
  rw [hE t hl]
  unfold EnvOf
  have : InS L S t ↔ InS L (bit x.m) t := by
    constructor
    · rintro ⟨y, hy, hs, hd⟩
      refine ⟨y, hy, ?_, hd⟩
      rcases lookOk_spec (F.look x hx y hy) hd (F.ok.lm x hx t ht) with ⟨e, hr⟩ | ⟨_, h | ⟨h, hr⟩⟩
      · rcases hn with hn | hn
        · rw [e] at hn; exact absurd hs hn
        · rw [hn] at hr; cases hr
      · exact h
      · rcases hn with hn | hn
        · exact absurd (hS y hy hs _ h) hn
        · rw [hn] at hr; cases hr
    · rintro ⟨y, hy, hs, hd⟩
      exact ⟨y, hy, hm _ hs, hd⟩
  by_cases h : InS L S t
  · rw [if_pos h, if_pos (this.1 h)]
  · rw [if_neg h, if_neg (fun q => h (this.2 q))]

theorem AgreeX.same {x : DOp} {E E' : Tr AV} (h : AgreeX ops L E0 Ef x E) (h' : AgreeX ops L E0 Ef x E') : Same (looks ops x.o) E' E := fun t ht hl => by rw [h t ht hl, h' t ht hl]

theorem get_putE (d : Tmp) (v : AV) (E : Tr AV) : getP (pathOf d) (putE (some d) v E) = some v := get_set_same _ _ _

theorem spec_of_run {x : DOp} {E E1 : Tr AV} {H H1 : Heap} (h : (compOper P n ops x.o).run k E H = .ok E1 H1) (hE : AgreeX ops L E0 Ef x E)
    (hf : ∀ d, x.o.dst = some d → d < n → getP (pathOf d) Ef = getP (pathOf d) E1) : Spec P n ops k L E0 Ef x H H1 := by
  obtain ⟨v, h1, h2, h3⟩ := compOper_shape h
  intro E' hE'
  refine ⟨v, h3 E' (hE.same hE'), fun d hd => ⟨?_, h2 d hd⟩⟩
  rw [hf d hd (h2 d hd), h1, hd, get_putE]

theorem AgreeS.put (F : Fit P ops L) (_hn : n ≤ lim) {S : Nat → Prop} {E : Tr AV} (h : AgreeS L E0 Ef S E) {x : DOp} (hx : x ∈ L) {v : AV} (hv : ∀ d, x.o.dst = some d → getP (pathOf d) Ef = some v ∧ d < n) :
    AgreeS L E0 Ef (fun j => S j ∨ j = x.i) (putE x.o.dst v E) := by
  intro t ht
  have key : InS L (fun j => S j ∨ j = x.i) t ↔ (InS L S t ∨ x.o.dst = some t) := by
    constructor
    · rintro ⟨y, hy, hs | hs, hd⟩
      · exact .inl ⟨y, hy, hs, hd⟩
      · rw [F.ok.inj y hy x hx hs] at hd; exact .inr hd
    · rintro (⟨y, hy, hs, hd⟩ | hd)
      · exact ⟨y, hy, .inl hs, hd⟩
      · exact ⟨x, hx, .inr rfl, hd⟩
  unfold EnvOf
  cases hd : x.o.dst with
  | none =>
    rw [hd] at key
    have : InS L (fun j => S j ∨ j = x.i) t ↔ InS L S t := by rw [key]; simp
    rw [show putE none v E = E from rfl, h t ht]
    unfold EnvOf
    by_cases q : InS L S t
    · rw [if_pos q, if_pos (this.2 q)]
    · rw [if_neg q, if_neg (fun z => q (this.1 z))]
  | some d =>
    rw [hd] at key
    obtain ⟨hv1, hv2⟩ := hv d hd
    rw [show putE (some d) v E = setP v (pathOf d) E from rfl, get_set]
    by_cases e : t = d
    · subst e
      rw [if_pos rfl, if_pos (key.2 (.inr rfl)), hv1]
    · rw [if_neg e, h t ht]
      unfold EnvOf
      have : InS L (fun j => S j ∨ j = x.i) t ↔ InS L S t := by
        rw [key]
        constructor
        · rintro (q | q)
          · exact q
          · exact absurd (Option.some.inj q).symm e
        · exact .inl
      by_cases q : InS L S t
      · rw [if_pos q, if_pos (this.2 q)]
      · rw [if_neg q, if_neg (fun z => q (this.1 z))]

theorem OE_rec_ok {r : OE} {f : Tr AV → Heap → OE} {E' : Tr AV} {H' : Heap} (h : (OE.rec .no f r : OE) = .ok E' H') : ∃ E1 H1, r = .ok E1 H1 ∧ f E1 H1 = .ok E' H' := by
  cases r with
  | no => cases h
  | ok E1 H1 => exact ⟨E1, H1, rfl, h⟩

theorem Bool_rec_ok {b : Bool} {r : OE} {E' : Tr AV} {H' : Heap} (h : (Bool.rec .no r b : OE) = .ok E' H') : b = true ∧ r = .ok E' H' := by
  cases b with
  | false => cases h
  | true => exact ⟨rfl, h⟩
/-- What a step of the one order is. -/
theorem drawGo_cons {x : DOp} {l pend : List DOp} {E E' : Tr AV} {H H' : Heap} (h : (drawGo P n ops (x :: l) pend).run k E H = .ok E' H') :
    ∃ E1 H1 pend', (compOper P n ops x.o).run k E H = .ok E1 H1 ∧ (drawGo P n ops l pend').run k E1 H1 = .ok E' H' ∧
      ((x.c = .quiet ∧ pend' = pend) ∨ (x.c = .rd ∧ pend' = x :: pend) ∨ (x.c = .al ∧ pend' = x :: pend ∧ (rechecks P ops (x :: pend)).run E1 H1 = true) ∨
       (x.c = .ch ∧ pend' = filterB (fun y => !(Nat.testBit x.m y.i)) pend ∧ (rechecks P ops pend').run E1 H1 = true)) := by
  simp only [drawGo] at h
  split at h
  · rename_i hc
    obtain ⟨E1, H1, h1, h2⟩ := OE_rec_ok h
    exact ⟨E1, H1, pend, h1, h2, .inl ⟨hc, rfl⟩⟩
  · rename_i hc
    obtain ⟨E1, H1, h1, h2⟩ := OE_rec_ok h
    exact ⟨E1, H1, x :: pend, h1, h2, .inr (.inl ⟨hc, rfl⟩)⟩
  · rename_i hc
    obtain ⟨E1, H1, h1, h2⟩ := OE_rec_ok h
    obtain ⟨hr, h2⟩ := Bool_rec_ok h2
    exact ⟨E1, H1, x :: pend, h1, h2, .inr (.inr (.inl ⟨hc, rfl, hr⟩))⟩
  · rename_i hc
    obtain ⟨E1, H1, h1, h2⟩ := OE_rec_ok h
    obtain ⟨hr, h2⟩ := Bool_rec_ok h2
    exact ⟨E1, H1, _, h1, h2, .inr (.inr (.inr ⟨hc, rfl, hr⟩))⟩

theorem drawGo_frame (hn : n ≤ lim) {d : Nat} (hd : d ≤ lim) : ∀ {l pend : List DOp} {E E' : Tr AV} {H H' : Heap}, (drawGo P n ops l pend).run k E H = .ok E' H' → (∀ y ∈ l, y.o.dst ≠ some d) → getP (pathOf d) E' = getP (pathOf d) E
  | [], _, _, _, _, _, h, _ => by cases h; rfl
  | x :: l, pend, E, E', H, H', h, hy => by
    obtain ⟨E1, H1, pend', h1, h2, _⟩ := drawGo_cons h
    rw [drawGo_frame hn hd h2 (fun y q => hy y (by simp [q]))]
    obtain ⟨v, q1, q2, _⟩ := compOper_shape h1
    rw [q1]
    cases hx : x.o.dst with
    | none => rfl
    | some e =>
      rw [show putE (some e) v E = setP v (pathOf e) E from rfl, get_set_ne]
      intro q
      subst q
      exact hy x (by simp) hx

theorem rechecks_mem : ∀ {l : List DOp} {E : Tr AV} {H : Heap}, (rechecks P ops l).run E H = true → ∀ x ∈ l, (recheck P ops x).run E H = true
  | [], _, _, _, x, hx => by cases hx
  | y :: l, E, H, h, x, hx => by
    simp only [rechecks] at h
    split at h
    · rename_i hy
      rcases List.mem_cons.1 hx with rfl | hx
      · exact hy
      · exact rechecks_mem h x hx
    · cases h

/-- What was read, and looked at again, is read the same. -/
theorem recheck_spec (F : Fit P ops L) {x : DOp} (hx : x ∈ L) (hr : x.c = .rd) {E : Tr AV} {H H1 : Heap} (hE : AgreeX ops L E0 Ef x E) (hs : Spec P n ops k L E0 Ef x H H) (hf : ∀ d, x.o.dst = some d → getP (pathOf d) Ef = getP (pathOf d) E)
    (h : (recheck P ops x).run E H1 = true) : Spec P n ops k L E0 Ef x H1 H1 := by
  have hrd : Reads (compOp P x.o.op) := cls_spec.2 (by rw [← F.ok.cl x hx]; exact hr)
  obtain ⟨v, h1, h2⟩ := hs E hE
  unfold recheck at h
  cases hd : x.o.dst with
  | none => rw [hd] at h; cases h
  | some d =>
    rw [hd] at h h1
    dsimp only at h
    obtain ⟨hv, hdn⟩ := h2 d hd
    have hp : putF n (some d) = some ⟨fun a E => setP a (pathOf d) E⟩ := by unfold putF; dsimp only; rw [if_pos hdn]
    have hrun : (compOper P n ops x.o).run k E H1 = .ok (putE (some d) v E) H1 := by
      unfold compOper at h1 ⊢
      rw [hd, hp] at h1 ⊢
      dsimp only at h1 ⊢
      cases hg : (guardF ops x.o).run E with
      | false =>
        rw [hg] at h1
        dsimp only at h1 ⊢
        injection h1 with h1
        rw [h1]
      | true =>
        rw [hg] at h h1
        dsimp only at h h1 ⊢
        rw [← hf d hd, hv] at h
        dsimp only at h
        have hq := hrd E H1
        cases hc : (compOp P x.o.op).run E H1 with
        | no => rw [hc] at h; cases h
        | call t args => rw [hc] at h; cases h
        | val v' H2 =>
          rw [hc, hr] at h
          rw [hc] at hq
          dsimp only at h ⊢
          cases hq
          rw [sameB_spec (eqAV_spec _ _ _) h]
          rfl
    refine spec_of_run hrun hE (fun d' hd' _ => ?_)
    rw [hd] at hd'
    cases hd'
    rw [get_putE, hv]

/-- An operation whose guard says no. -/
def Skip (P : Program) (n : Nat) (ops : Array Oper) (k : CallT) (L : List DOp) (E0 Ef : Tr AV) (x : DOp) : Prop := ∀ H2, Spec P n ops k L E0 Ef x H2 H2
/-- The object that an operation has made at last. -/
noncomputable def aid (Ef : Tr AV) (x : DOp) : Nat := ((x.o.dst.bind fun d => getP (pathOf d) Ef).bind idOf).getD 0
/-- What an operation that makes an object would make here is the object that it has made. -/
def AlAt (P : Program) (n : Nat) (ops : Array Oper) (L : List DOp) (E0 Ef : Tr AV) (x : DOp) (H2 : Heap) : Prop :=
  ∃ d v0, x.o.dst = some d ∧ d < n ∧ getP (pathOf d) Ef = some v0 ∧ idOf v0 = some (aid Ef x) ∧ ∀ E, AgreeX ops L E0 Ef x E → (guardF ops x.o).run E = true ∧
    ∃ v' H', (compOp P x.o.op).run E H2 = .val v' H' ∧ v0 = reId (aid Ef x) v' ∧ ∃ a b, H2.get (aid Ef x) = some a ∧ H'.get H2.next = some b ∧ sameB (eqObj a b) a b = true

theorem compOp_cong' {x : DOp} {E E' : Tr AV} {H : Heap} (hs : Same (looks ops x.o) E' E) : (compOp P x.o.op).run E' H = (compOp P x.o.op).run E H :=
  compOp_cong (Same.opds (fun t ht => hs t (by simp [looks, ht])))

theorem alAt_of {x : DOp} (hal : x.c = .al) {E : Tr AV} {H1 : Heap} (hE : AgreeX ops L E0 Ef x E) (hg : (guardF ops x.o).run E = true) {d : Nat} (hd : x.o.dst = some d) (hdn : d < n) {v0 : AV} (hv : getP (pathOf d) Ef = some v0)
    (hf : getP (pathOf d) E = some v0) (h : (recheck P ops x).run E H1 = true) : AlAt P n ops L E0 Ef x H1 := by
  unfold recheck at h
  rw [hd] at h
  dsimp only at h
  rw [hg, hf] at h
  dsimp only at h
  cases hc : (compOp P x.o.op).run E H1 with
  | no => rw [hc] at h; cases h
  | call t args => rw [hc] at h; cases h
  | val v' H2 =>
    rw [hc, hal] at h
    dsimp only at h
    unfold reMade at h
    cases hid : idOf v0 with
    | none => rw [hid] at h; cases h
    | some id =>
      rw [hid] at h
      dsimp only at h
      have haid : aid Ef x = id := by unfold aid; rw [hd]; simp [hv, hid]
      cases he : sameB (eqAV 30 v0 (reId id v')) v0 (reId id v') with
      | false => rw [he] at h; cases h
      | true =>
        rw [he] at h
        dsimp only at h
        cases h1 : H1.get id with
        | none => rw [h1] at h; cases h
        | some a =>
          cases h2 : H2.get H1.next with
          | none => rw [h1, h2] at h; cases h
          | some b =>
            rw [h1, h2] at h
            refine ⟨d, v0, hd, hdn, hv, by rw [haid, hid], fun E' hE' => ⟨by rw [guardF_cong (hE.same hE')]; exact hg, v', H2, by rw [compOp_cong' (hE.same hE')]; exact hc, by rw [haid]; exact sameB_spec (eqAV_spec _ _ _) he, a, b, by rw [haid]; exact h1, h2, h⟩⟩

/-- An operation that makes an object, when it is met. -/
theorem al_first (F : Fit P ops L) {x : DOp} (hx : x ∈ L) (hal : x.c = .al) {E E1 : Tr AV} {H H1 : Heap} (h : (compOper P n ops x.o).run k E H = .ok E1 H1) (hE : AgreeX ops L E0 Ef x E) (hE1 : AgreeX ops L E0 Ef x E1)
    (hf : ∀ d, x.o.dst = some d → d < n → getP (pathOf d) Ef = getP (pathOf d) E1) (hre : (recheck P ops x).run E1 H1 = true) :
    (Skip P n ops k L E0 Ef x ∧ H1 = H) ∨ (∃ ob, True ∧ H1 = H.push ob ∧ ObFree ob ∧ aid Ef x = H.next ∧ AlAt P n ops L E0 Ef x H1) := by
  have hmk := cls_mk (P := P) (o := x.o) (by rw [← F.ok.cl x hx]; exact hal) E H
  have h0 := h
  unfold compOper at h
  cases hp : putF n x.o.dst with
  | none => rw [hp] at h; cases h
  | some p =>
    rw [hp] at h
    dsimp only at h
    obtain ⟨hput, hlt⟩ := putF_spec hp
    cases hg : (guardF ops x.o).run E with
    | false =>
      rw [hg] at h
      cases h
      refine .inl ⟨fun H2 => ?_, rfl⟩
      refine spec_of_run (E1 := p.run undefA E) ?_ hE hf
      unfold compOper
      rw [hp]
      dsimp only
      rw [hg]
    | true =>
      rw [hg] at h
      dsimp only at h
      cases hr : (compOp P x.o.op).run E H with
      | no => rw [hr] at h; cases h
      | call t args => rw [hr] at hmk; exact hmk.elim
      | val v H2 =>
        rw [hr] at h hmk
        cases h
        obtain ⟨ob, m1, rfl, m3, m4, _⟩ := hmk
        cases hd : x.o.dst with
        | none =>
          unfold recheck at hre
          rw [hd] at hre
          cases hre
        | some d =>
          have hdn := hlt d hd
          have hfd : getP (pathOf d) (p.run v E) = some v := by rw [hput, hd, get_putE]
          have hv : getP (pathOf d) Ef = some v := by rw [hf d hd hdn, hfd]
          refine .inr ⟨ob, m1, rfl, m4, ?_, alAt_of hal hE1 (by rw [guardF_cong (hE.same hE1)]; exact hg) hd hdn hv hfd hre⟩
          unfold aid
          rw [hd]
          simp [hv, m3]

/-- What was read or made, and may still be read or made later. -/
def PendAt (P : Program) (n : Nat) (ops : Array Oper) (k : CallT) (L : List DOp) (E0 Ef : Tr AV) (x : DOp) (H : Heap) : Prop :=
  (x.c = .rd ∧ Spec P n ops k L E0 Ef x H H) ∨ (x.c = .al ∧ (Skip P n ops k L E0 Ef x ∨ AlAt P n ops L E0 Ef x H))
theorem pend_keep (F : Fit P ops L) {x : DOp} (hx : x ∈ L) {E : Tr AV} {H H1 : Heap} (hE : AgreeX ops L E0 Ef x E) (hs : PendAt P n ops k L E0 Ef x H) (hf : ∀ d, x.o.dst = some d → getP (pathOf d) Ef = getP (pathOf d) E)
    (h : (recheck P ops x).run E H1 = true) : PendAt P n ops k L E0 Ef x H1 := by
  rcases hs with ⟨hc, hs⟩ | ⟨hc, hs | hs⟩
  · exact .inl ⟨hc, recheck_spec F hx hc hE hs hf h⟩
  · exact .inr ⟨hc, .inl hs⟩
  · obtain ⟨d, v0, h1, h2, h3, _, h5⟩ := hs
    exact .inr ⟨hc, .inr (alAt_of hc hE (h5 E hE).1 h1 h2 h3 (by rw [← hf d h1]; exact h3) h)⟩

/-- When an operation's object is there: from a phase on. -/
def AlPh (P : Program) (n : Nat) (ops : Array Oper) (L : List DOp) (E0 Ef : Tr AV) (ch : List DOp) (Hb Hc : Nat → Heap) (x : DOp) (r : Nat) : Prop :=
  r ≤ ch.length ∧ (∀ q c, q < r → ch[q]? = some c → bit x.m c.i) ∧ (Hb r).next ≤ aid Ef x ∧ aid Ef x < (Hc r).next ∧
    ∀ p, r ≤ p → p ≤ ch.length → (∀ q c, r ≤ q → q < p → ch[q]? = some c → ¬ bit c.m x.i) → AlAt P n ops L E0 Ef x (Hc p)

/-- What the one order shows of every order. -/
theorem canon (F : Fit P ops L) (hn : n ≤ lim) : ∀ (l pend : List DOp) (seen chs s : Nat) (E : Tr AV) (H H' : Heap), (drawGo P n ops l pend).run k E H = .ok Ef H' → topo l seen chs = some s → (∀ x ∈ l, x ∈ L) →
    (∀ x ∈ pend, x ∈ L ∧ isRd x = true ∧ bit seen x.i ∧ (∀ d, x.o.dst = some d → d < n) ∧ PendAt P n ops k L E0 Ef x H) → AgreeS L E0 Ef (bit seen) E → DC L (bit seen) →
    AgreeS L E0 Ef (bit s) Ef ∧ DC L (bit s) ∧
    ∃ (Hb Hc : Nat → Heap) (ph : Nat → Nat), Hb 0 = H ∧ Hc (filterB isCh l).length = H' ∧ (∀ p, p ≤ (filterB isCh l).length → Ups (Hb p) (Hc p)) ∧
      (∀ q c, (filterB isCh l)[q]? = some c → Spec P n ops k L E0 Ef c (Hc q) (Hb (q + 1))) ∧
      (∀ x ∈ l, x.c = .rd → ∃ r, r ≤ (filterB isCh l).length ∧ (∀ q c, q < r → (filterB isCh l)[q]? = some c → bit x.m c.i) ∧ ∀ p, r ≤ p → p ≤ (filterB isCh l).length → (∀ q c, r ≤ q → q < p → (filterB isCh l)[q]? = some c → ¬ bit c.m x.i) → Spec P n ops k L E0 Ef x (Hc p) (Hc p)) ∧
      (∀ x ∈ l, x.c = .quiet → ∀ H2, Spec P n ops k L E0 Ef x H2 H2) ∧
      (∀ x ∈ l, x.c = .al → Skip P n ops k L E0 Ef x ∨ AlPh P n ops L E0 Ef (filterB isCh l) Hb Hc x (ph x.i)) ∧
      (∀ x ∈ l, ∀ y ∈ l, x.c = .al → y.c = .al → ¬ Skip P n ops k L E0 Ef x → ¬ Skip P n ops k L E0 Ef y → ph x.i = ph y.i → aid Ef x = aid Ef y → x = y) ∧
      (∀ x ∈ pend, ∀ p, p ≤ (filterB isCh l).length → (∀ q c, q < p → (filterB isCh l)[q]? = some c → ¬ bit c.m x.i) → PendAt P n ops k L E0 Ef x (Hc p))
  | [], pend, seen, chs, s, E, H, H', h, ht, hl, hp, hE, hD => by
    cases h
    simp only [topo, Option.some.injEq] at ht
    subst ht
    refine ⟨hE, hD, fun _ => H, fun _ => H, fun _ => 0, rfl, rfl, fun _ _ => .refl _, fun q c hq => (by cases hq), fun x hx => (by cases hx), fun x hx => (by cases hx), fun x hx => (by cases hx), fun x hx => (by cases hx), fun x hx p _ _ => (hp x hx).2.2.2.2⟩
  | x :: l, pend, seen, chs, s, E, H, H', h, ht, hl, hp, hE, hD => by
    obtain ⟨E1, H1, pend', h1, h2, h3⟩ := drawGo_cons h
    obtain ⟨t1, t2, t3⟩ := topo_cons ht
    have hx : x ∈ L := hl x (by simp)
    have hxE : AgreeX ops L E0 Ef x E := agree F hD hx t1 (.inl (by unfold bit; rw [t2]; simp)) hE
    have hnew : ∀ y ∈ l, y.i ≠ x.i := by
      have key : ∀ chs', topo l (Nat.lor (2 ^ x.i) seen) chs' = some s → ∀ y ∈ l, y.i ≠ x.i := fun chs' h' y hy e => by
        have := topo_new h' y hy
        rw [testBit_lor, testBit_pow, e] at this
        simp at this
      rcases t3 with ⟨_, h3⟩ | ⟨_, _, h3⟩ | ⟨_, _, h3⟩ <;> exact key _ h3
    obtain ⟨v, s1, s2, s3⟩ := compOper_shape h1
    have hfin : ∀ d, x.o.dst = some d → d < n → getP (pathOf d) Ef = getP (pathOf d) E1 := fun d hd hdn =>
      drawGo_frame hn (Nat.le_trans (Nat.le_of_lt hdn) hn) h2 (fun y hy e => hnew y hy (by rw [F.dst y (hl y (by simp [hy])) x hx d e hd]))
    have hspec : Spec P n ops k L E0 Ef x H H1 := spec_of_run h1 hxE hfin
    have hS : (bit (Nat.lor (2 ^ x.i) seen)) = fun j => bit seen j ∨ j = x.i := by
      funext j
      unfold bit
      rw [testBit_lor, testBit_pow]
      simp only [Bool.or_eq_true, decide_eq_true_eq, eq_iff_iff]
      constructor
      · rintro (e | e)
        · exact .inr e.symm
        · exact .inl e
      · rintro (e | e)
        · exact .inr e
        · exact .inl e.symm
    have hE1 : AgreeS L E0 Ef (bit (Nat.lor (2 ^ x.i) seen)) E1 := by
      rw [hS, s1]
      refine hE.put F hn hx (fun d hd => ⟨?_, s2 d hd⟩)
      rw [hfin d hd (s2 d hd), s1, hd, get_putE]
    have hD1 : DC L (bit (Nat.lor (2 ^ x.i) seen)) := by
      rw [hS]
      rintro y hy (hs | hs) j hj
      · exact .inl (hD y hy hs j hj)
      · rw [F.ok.inj y hy x hx hs] at hj
        exact .inl (t1 j hj)
    have hl' : ∀ y ∈ l, y ∈ L := fun y hy => hl y (by simp [hy])
    have hbit : bit (Nat.lor (2 ^ x.i) seen) x.i := by rw [hS]; exact .inr rfl
    have hmono : ∀ j, bit seen j → bit (Nat.lor (2 ^ x.i) seen) j := fun j hj => by rw [hS]; exact .inl hj
    have hagr : ∀ y, y ∈ L → isRd y = true → bit (Nat.lor (2 ^ x.i) seen) y.i → AgreeX ops L E0 Ef y E1 := fun y a b c => agree F hD1 a (fun j hj => hD1 y a c j hj) (.inr b) hE1
    have hdst : ∀ y, y ∈ L → bit (Nat.lor (2 ^ x.i) seen) y.i → (∀ d, y.o.dst = some d → d < n) → ∀ d, y.o.dst = some d → getP (pathOf d) Ef = getP (pathOf d) E1 := fun y a c hd e he => by
      rw [hE1 e (Nat.le_trans (Nat.le_of_lt (hd e he)) hn)]
      unfold EnvOf
      rw [if_pos ⟨y, a, c, he⟩]
    rcases h3 with ⟨hc, rfl⟩ | ⟨hc, rfl⟩ | ⟨hc, rfl, hre⟩ | ⟨hc, hpe, hre⟩
    · -- quiet
      have ht' : topo l (Nat.lor (2 ^ x.i) seen) chs = some s := by
        rcases t3 with ⟨_, t3⟩ | ⟨e, _⟩ | ⟨e, _⟩
        · exact t3
        · rw [hc] at e; rcases e with e | e <;> cases e
        · rw [hc] at e; cases e
      have hq : Quiet (compOp P x.o.op) := cls_spec.1 (by rw [← F.ok.cl x hx]; exact hc)
      have hH : H1 = H := compOper_reads hq.reads h1
      subst hH
      have hf : filterB isCh (x :: l) = filterB isCh l := by simp only [filterB]; unfold isCh; rw [hc]
      obtain ⟨r0, r00, Hb, Hc, ph, r1, r2, ru, r3, r4, r5, ra, ri, r6⟩ := canon F hn l pend' _ chs s E1 H1 H' h2 ht' hl' (fun y hy => let ⟨a, b, c, d⟩ := hp y hy; ⟨a, b, hmono _ c, d⟩) hE1 hD1
      rw [hf]
      refine ⟨r0, r00, Hb, Hc, ph, r1, r2, ru, r3, fun y hy hyc => ?_, fun y hy hyc H2 => ?_, fun y hy hyc => ?_, fun y hy z hz hyc hzc => ?_, r6⟩
      · rcases List.mem_cons.1 hy with rfl | hy
        · rw [hc] at hyc; cases hyc
        · exact r4 y hy hyc
      · rcases List.mem_cons.1 hy with rfl | hy
        · exact spec_of_run (compOper_quiet hq h1 H2) hxE hfin
        · exact r5 y hy hyc H2
      · rcases List.mem_cons.1 hy with rfl | hy
        · rw [hc] at hyc; cases hyc
        · exact ra y hy hyc
      · rcases List.mem_cons.1 hy with rfl | hy
        · rw [hc] at hyc; cases hyc
        · rcases List.mem_cons.1 hz with rfl | hz
          · rw [hc] at hzc; cases hzc
          · exact ri y hy z hz hyc hzc
    · -- a read
      have ht' : topo l (Nat.lor (2 ^ x.i) seen) chs = some s := by
        rcases t3 with ⟨e, _⟩ | ⟨_, _, t3⟩ | ⟨e, _⟩
        · rw [hc] at e; cases e
        · exact t3
        · rw [hc] at e; cases e
      have hq : Reads (compOp P x.o.op) := cls_spec.2 (by rw [← F.ok.cl x hx]; exact hc)
      have hH : H1 = H := compOper_reads hq h1
      subst hH
      have hf : filterB isCh (x :: l) = filterB isCh l := by simp only [filterB]; unfold isCh; rw [hc]
      obtain ⟨r0, r00, Hb, Hc, ph, r1, r2, ru, r3, r4, r5, ra, ri, r6⟩ := canon F hn l (x :: pend) _ chs s E1 H1 H' h2 ht' hl' (fun y hy => by
        rcases List.mem_cons.1 hy with rfl | hy
        · exact ⟨hx, by unfold isRd; rw [hc], hbit, s2, .inl ⟨hc, hspec⟩⟩
        · obtain ⟨a, b, c, d⟩ := hp y hy
          exact ⟨a, b, hmono _ c, d⟩) hE1 hD1
      rw [hf]
      refine ⟨r0, r00, Hb, Hc, ph, r1, r2, ru, r3, fun y hy hyc => ?_, fun y hy hyc H2 => ?_, fun y hy hyc => ?_, fun y hy z hz hyc hzc => ?_, fun y hy => r6 y (by simp [hy])⟩
      · rcases List.mem_cons.1 hy with rfl | hy
        · refine ⟨0, Nat.zero_le _, fun q c hq => absurd hq (Nat.not_lt_zero q), fun p _ hp' hno => ?_⟩
          rcases r6 y (by simp) p hp' (fun q c hq => hno q c (Nat.zero_le q) hq) with ⟨_, h⟩ | ⟨h, _⟩
          · exact h
          · rw [hc] at h; cases h
        · exact r4 y hy hyc
      · rcases List.mem_cons.1 hy with rfl | hy
        · rw [hc] at hyc; cases hyc
        · exact r5 y hy hyc H2
      · rcases List.mem_cons.1 hy with rfl | hy
        · rw [hc] at hyc; cases hyc
        · exact ra y hy hyc
      · rcases List.mem_cons.1 hy with rfl | hy
        · rw [hc] at hyc; cases hyc
        · rcases List.mem_cons.1 hz with rfl | hz
          · rw [hc] at hzc; cases hzc
          · exact ri y hy z hz hyc hzc
    · -- an object is made
      have ht' : topo l (Nat.lor (2 ^ x.i) seen) chs = some s := by
        rcases t3 with ⟨e, _⟩ | ⟨_, _, t3⟩ | ⟨e, _⟩
        · rw [hc] at e; cases e
        · exact t3
        · rw [hc] at e; cases e
      have hrd : isRd x = true := by unfold isRd; rw [hc]
      have hf : filterB isCh (x :: l) = filterB isCh l := by simp only [filterB]; unfold isCh; rw [hc]
      have hal := al_first F hx hc h1 hxE (hagr x hx hrd hbit) hfin (rechecks_mem hre x (by simp))
      have hxp : PendAt P n ops k L E0 Ef x H1 := by
        rcases hal with ⟨h, _⟩ | ⟨_, _, _, _, _, h⟩
        · exact .inr ⟨hc, .inl h⟩
        · exact .inr ⟨hc, .inr h⟩
      obtain ⟨r0, r00, Hb, Hc, ph, r1, r2, ru, r3, r4, r5, ra, ri, r6⟩ := canon F hn l (x :: pend) _ chs s E1 H1 H' h2 ht' hl' (fun y hy => by
        rcases List.mem_cons.1 hy with rfl | hy'
        · exact ⟨hx, hrd, hbit, s2, hxp⟩
        · obtain ⟨a, b, c, d, e⟩ := hp y hy'
          exact ⟨a, b, hmono _ c, d, pend_keep F a (hagr y a b (hmono _ c)) e (hdst y a (hmono _ c) d) (rechecks_mem hre y hy)⟩) hE1 hD1
      rw [hf]
      have hups : Ups H H1 := by
        rcases hal with ⟨_, rfl⟩ | ⟨ob, q1, rfl, q3, _⟩
        · exact .refl _
        · exact .push q1 q3 (.refl _)
      have hu0 : Ups H1 (Hc 0) := by rw [← r1]; exact ru 0 (Nat.zero_le _)
      have htr : ∀ {A B D : Heap}, Ups A B → Ups B D → Ups A D := fun {A B D} h1 => by
        induction h1 with
        | refl => exact id
        | push a b _ ih => exact fun h => .push a b (ih h)
      have hphx : ∀ y ∈ l, (if y.i = x.i then 0 else ph y.i) = ph y.i := fun y hy => if_neg (hnew y hy)
      refine ⟨r0, r00, fun p => match p with
        | 0 => H
        | p + 1 => Hb (p + 1), Hc, fun i => if i = x.i then 0 else ph i, rfl, r2, fun p hp' => ?_, r3, fun y hy hyc => ?_, fun y hy hyc H2 => ?_, fun y hy hyc => ?_, fun y hy z hz hyc hzc hys hzs hph hid => ?_, fun y hy p hp' hno => ?_⟩
      · cases p with
        | zero => exact htr hups hu0
        | succ p => exact ru (p + 1) hp'
      · rcases List.mem_cons.1 hy with rfl | hy
        · rw [hc] at hyc; cases hyc
        · exact r4 y hy hyc
      · rcases List.mem_cons.1 hy with rfl | hy
        · rw [hc] at hyc; cases hyc
        · exact r5 y hy hyc H2
      · rcases List.mem_cons.1 hy with rfl | hy
        · rcases hal with ⟨h, _⟩ | ⟨ob, q1, q2, q3, q4, q5⟩
          · exact .inl h
          · refine .inr ?_
            dsimp only
            rw [if_pos rfl]
            refine ⟨Nat.zero_le _, fun q c hq => absurd hq (Nat.not_lt_zero q), Nat.le_of_eq q4.symm, ?_, fun p _ hp' hno => ?_⟩
            · have := hu0.next
              rw [q2] at this
              rw [q4]
              exact Nat.lt_of_lt_of_le (Nat.lt_succ_self _) this
            · rcases r6 y (by simp) p hp' (fun q c hq => hno q c (Nat.zero_le q) hq) with ⟨h, _⟩ | ⟨_, h | h⟩
              · rw [hc] at h; cases h
              · obtain ⟨d, v0, g1, g2, g3, g4, g5⟩ := q5
                exfalso
                obtain ⟨w1, w2, _⟩ := h H1 E1 (hagr y hx hrd hbit)
                obtain ⟨g6, _⟩ := g5 E1 (hagr y hx hrd hbit)
                have hmk := cls_mk (P := P) (o := y.o) (by rw [← F.ok.cl y hx]; exact hc) E1 H1
                obtain ⟨_, v', H'', g7, _⟩ := g5 E1 (hagr y hx hrd hbit)
                rw [g7] at hmk
                obtain ⟨ob', m1, m2, _⟩ := hmk
                unfold compOper at w2
                have hp' : putF n y.o.dst = some ⟨fun a E => setP a (pathOf d) E⟩ := by rw [g1]; unfold putF; dsimp only; rw [if_pos g2]
                rw [hp'] at w2
                dsimp only at w2
                rw [g6, g7] at w2
                dsimp only at w2
                injection w2 with _ w2
                rw [m2] at w2
                have := congrArg Heap.next w2
                simp [Heap.push] at this
              · exact h
        · dsimp only
          rw [hphx y hy]
          refine (ra y hy hyc).imp id fun ⟨a1, a2, a3, a4, a5⟩ => ⟨a1, a2, ?_, a4, a5⟩
          generalize ph y.i = r at a3
          cases r with
          | zero =>
            rw [r1] at a3
            exact Nat.le_trans hups.next a3
          | succ r => exact a3
      · dsimp only at hph
        have hlow : ∀ u ∈ l, u.c = .al → ¬ Skip P n ops k L E0 Ef u → ph u.i = 0 → ∀ ob, H1 = H.push ob → aid Ef u = H.next → False := fun u hu huc hus hu0 ob he hid' => by
          rcases ra u hu huc with h | ⟨_, _, a3, _⟩
          · exact hus h
          · rw [hu0, r1, he, hid'] at a3
            exact absurd a3 (Nat.not_succ_le_self _)
        rcases List.mem_cons.1 hy with ey | hy1
        · rcases List.mem_cons.1 hz with ez | hz1
          · rw [ey, ez]
          · subst ey
            rw [if_pos rfl, hphx z hz1] at hph
            rcases hal with ⟨h, _⟩ | ⟨ob, q1, q2, q3, q4, q5⟩
            · exact absurd h hys
            · exact (hlow z hz1 hzc hzs hph.symm ob q2 (by rw [← hid, q4])).elim
        · rcases List.mem_cons.1 hz with ez | hz1
          · subst ez
            rw [if_pos rfl, hphx y hy1] at hph
            rcases hal with ⟨h, _⟩ | ⟨ob, q1, q2, q3, q4, q5⟩
            · exact absurd h hzs
            · exact (hlow y hy1 hyc hys hph ob q2 (by rw [hid, q4])).elim
          · rw [hphx y hy1, hphx z hz1] at hph
            exact ri y hy1 z hz1 hyc hzc hys hzs hph hid
      · exact r6 y (by simp [hy]) p hp' hno
    · -- the chain
      obtain ⟨tc, ht'⟩ : (∀ j, chs.testBit j = true → x.m.testBit j = true) ∧ topo l (Nat.lor (2 ^ x.i) seen) (Nat.lor (2 ^ x.i) chs) = some s := by
        rcases t3 with ⟨e, _⟩ | ⟨e, _⟩ | ⟨_, t3⟩
        · rw [hc] at e; cases e
        · rw [hc] at e; rcases e with e | e <;> cases e
        · exact t3
      have hf : filterB isCh (x :: l) = x :: filterB isCh l := by simp only [filterB]; unfold isCh; rw [hc]
      have hpm : ∀ y ∈ pend', y ∈ pend ∧ ¬ bit x.m y.i := fun y hy => by
        rw [hpe] at hy
        obtain ⟨a, b⟩ := filterB_mem.1 hy
        exact ⟨a, by unfold bit; simpa using b⟩
      obtain ⟨r0, r00, Hb, Hc, ph, r1, r2, ru, r3, r4, r5, ra, ri, r6⟩ := canon F hn l pend' _ _ s E1 H1 H' h2 ht' hl' (fun y hy => by
        obtain ⟨a, b, c, d, e⟩ := hp y (hpm y hy).1
        exact ⟨a, b, hmono _ c, d, pend_keep F a (hagr y a b (hmono _ c)) e (hdst y a (hmono _ c) d) (rechecks_mem hre y hy)⟩) hE1 hD1
      rw [hf]
      have hbef : ∀ y ∈ l, y.c ≠ .quiet → ∀ r, (∀ q c, q < r → (filterB isCh l)[q]? = some c → bit y.m c.i) → ∀ q c, q < r + 1 → (x :: filterB isCh l)[q]? = some c → bit y.m c.i := fun y hy hyc r u1 q c hq hqc => by
        cases q with
        | zero =>
          simp only [List.getElem?_cons_zero, Option.some.injEq] at hqc
          subst hqc
          refine topo_chs ht' y hy hyc _ ?_
          rw [testBit_lor, testBit_pow]
          simp
        | succ q => exact u1 q c (by omega) (by simpa using hqc)
      refine ⟨r0, r00, fun q => match q with
        | 0 => H
        | q + 1 => Hb q, fun q => match q with
        | 0 => H
        | q + 1 => Hc q, fun i => ph i + 1, rfl, r2, fun p hp' => ?_, fun q c hq => ?_, fun y hy hyc => ?_, fun y hy hyc H2 => ?_, fun y hy hyc => ?_, fun y hy z hz hyc hzc hys hzs hph hid => ?_, fun y hy p hp' hno => ?_⟩
      · cases p with
        | zero => exact .refl _
        | succ p => simp only [List.length_cons] at hp'; exact ru p (by omega)
      · cases q with
        | zero =>
          simp only [List.getElem?_cons_zero, Option.some.injEq] at hq
          subst hq
          dsimp only
          rw [r1]
          exact hspec
        | succ q => exact r3 q c (by simpa using hq)
      · rcases List.mem_cons.1 hy with rfl | hy
        · rw [hc] at hyc; cases hyc
        · obtain ⟨r, u0, u1, u2⟩ := r4 y hy hyc
          refine ⟨r + 1, by simp only [List.length_cons]; omega, hbef y hy (by rw [hyc]; exact fun e => by cases e) r u1, fun p hr hp' hno => ?_⟩
          cases p with
          | zero => omega
          | succ p =>
            simp only [List.length_cons] at hp'
            exact u2 p (by omega) (by omega) (fun q c h5 h6 h7 => hno (q + 1) c (by omega) (by omega) (by simpa using h7))
      · rcases List.mem_cons.1 hy with rfl | hy
        · rw [hc] at hyc; cases hyc
        · exact r5 y hy hyc H2
      · rcases List.mem_cons.1 hy with rfl | hy
        · rw [hc] at hyc; cases hyc
        · refine (ra y hy hyc).imp id fun ⟨a1, a2, a3, a4, a5⟩ => ⟨by simp only [List.length_cons]; show ph y.i + 1 ≤ _; omega, hbef y hy (by rw [hyc]; exact fun e => by cases e) _ a2, a3, a4, fun p hr hp' hno => ?_⟩
          dsimp only at hr hno
          cases p with
          | zero => omega
          | succ p =>
            simp only [List.length_cons] at hp'
            exact a5 p (by omega) (by omega) (fun q c h5 h6 h7 => hno (q + 1) c (by omega) (by omega) (by simpa using h7))
      · rcases List.mem_cons.1 hy with rfl | hy
        · rw [hc] at hyc; cases hyc
        · rcases List.mem_cons.1 hz with rfl | hz
          · rw [hc] at hzc; cases hzc
          · exact ri y hy z hz hyc hzc hys hzs (Nat.succ.inj hph) hid
      · cases p with
        | zero => exact (hp y hy).2.2.2.2
        | succ p =>
          simp only [List.length_cons] at hp'
          have h0 := hno 0 x (by omega) (by simp)
          refine r6 y ?_ p (by omega) (fun q c h6 h7 => hno (q + 1) c (by omega) (by simpa using h7))
          rw [hpe]
          refine filterB_mem.2 ⟨hy, ?_⟩
          unfold bit at h0
          simpa using h0

/-- The chain is one row. -/
theorem chain_order : ∀ {l : List DOp} {seen chs s : Nat}, topo l seen chs = some s → ∀ (q q' : Nat) (c c' : DOp), q < q' → (filterB isCh l)[q]? = some c → (filterB isCh l)[q']? = some c' → bit c'.m c.i
  | [], _, _, _, _, q, q', c, c', _, h, _ => by simp [filterB] at h
  | x :: l, seen, chs, s, ht, q, q', c, c', hlt, h, h' => by
    obtain ⟨_, _, t3⟩ := topo_cons ht
    rcases t3 with ⟨hc, t⟩ | ⟨hc, _, t⟩ | ⟨hc, _, t⟩
    · have hf : filterB isCh (x :: l) = filterB isCh l := by simp only [filterB]; unfold isCh; rw [hc]
      rw [hf] at h h'
      exact chain_order t q q' c c' hlt h h'
    · have hf : filterB isCh (x :: l) = filterB isCh l := by simp only [filterB]; unfold isCh; rcases hc with hc | hc <;> rw [hc]
      rw [hf] at h h'
      exact chain_order t q q' c c' hlt h h'
    · have hf : filterB isCh (x :: l) = x :: filterB isCh l := by simp only [filterB]; unfold isCh; rw [hc]
      rw [hf] at h h'
      cases q' with
      | zero => omega
      | succ q' =>
        simp only [List.getElem?_cons_succ] at h'
        cases q with
        | zero =>
          simp only [List.getElem?_cons_zero, Option.some.injEq] at h
          subst h
          obtain ⟨hm, hch⟩ := filterB_mem.1 (List.mem_iff_getElem?.2 ⟨_, h'⟩)
          refine topo_chs t c' hm (by rw [isCh_iff.1 hch]; exact fun e => by cases e) _ ?_
          rw [testBit_lor, testBit_pow]
          simp
        | succ q => exact chain_order t q q' c c' (by omega) (by simpa using h) h'
end canon

end Go.Sv
