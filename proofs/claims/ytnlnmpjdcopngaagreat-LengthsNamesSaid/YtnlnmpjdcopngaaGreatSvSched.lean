/- A region whose order is drawn, run by the machine. -/
import Derived.Test.YtnlnmpjdcopngaaGreatSvDraw
namespace Go.Sv

section sched
variable {P : Program} {n : Nat} {ops : Array Oper} {k : CallT} {L : List DOp} {E0 Ef : Tr AV}

theorem topo_first {S : Nat → Prop} : ∀ {l : List DOp} {seen chs s : Nat}, topo l seen chs = some s → (∀ j, bit seen j → S j) → (∀ x ∈ l, S x.i) ∨ ∃ x ∈ l, ¬ S x.i ∧ ∀ j, bit x.m j → S j
  | [], _, _, _, _, _ => .inl fun x hx => by cases hx
  | x :: l, seen, chs, s, h, hs => by
    obtain ⟨t1, t2, t3⟩ := topo_cons h
    by_cases hx : S x.i
    · have key : ∀ chs', topo l (Nat.lor (2 ^ x.i) seen) chs' = some s → (∀ y ∈ x :: l, S y.i) ∨ ∃ y ∈ x :: l, ¬ S y.i ∧ ∀ j, bit y.m j → S j := fun chs' h' => by
        rcases topo_first h' (S := S) (fun j hj => by
          unfold bit at hj
          rw [testBit_lor, testBit_pow] at hj
          simp only [Bool.or_eq_true, decide_eq_true_eq] at hj
          rcases hj with rfl | hj
          · exact hx
          · exact hs j hj) with q | ⟨y, hy, q⟩
        · exact .inl fun y hy => by
            rcases List.mem_cons.1 hy with rfl | hy
            · exact hx
            · exact q y hy
        · exact .inr ⟨y, by simp [hy], q⟩
      rcases t3 with ⟨_, t3⟩ | ⟨_, _, t3⟩ | ⟨_, _, t3⟩ <;> exact key _ t3
    · exact .inr ⟨x, by simp, hx, fun j hj => hs j (t1 j hj)⟩

def Done (listed : Array Bool) (i : Nat) : Prop := listed.getD i false = true
theorem done_set {listed : Array Bool} {i : Nat} (hi : i < listed.size) (j : Nat) : Done (listed.setIfInBounds i true) j ↔ (Done listed j ∨ j = i) := by
  unfold Done
  rw [Array.getD_eq_getD_getElem?, Array.getElem?_setIfInBounds, Array.getD_eq_getD_getElem?]
  by_cases e : i = j
  · subst e; simp [hi]
  · have : ¬ j = i := fun q => e q.symm
    simp [e, this]

theorem mem_ready {listed : Array Bool} {i : Nat} (hs : listed.size = ops.size) : i ∈ Region.ready .any ops listed ↔ i < ops.size ∧ ¬ Done listed i ∧ ∃ o, ops[i]? = some o ∧ ∀ e ∈ o.after.toList, Region.binds .any e = true → Done listed e.on := by
  unfold Region.ready Done
  simp only [List.mem_filter, List.mem_range, Bool.and_eq_true, Bool.not_eq_true']
  constructor
  · rintro ⟨h1, h2, h3⟩
    refine ⟨h1, ?_, ?_⟩
    · rw [Array.getD_eq_getD_getElem?, Array.getElem?_eq_getElem (by omega)] at h2 ⊢
      simpa using h2
    · rw [Array.getElem?_eq_getElem h1] at h3
      simp only [Option.map_some, Option.getD_some] at h3
      refine ⟨ops[i], Array.getElem?_eq_getElem h1, fun e he hb => ?_⟩
      have := Array.all_eq_true_iff_forall_mem.1 h3 e (by simpa using he)
      rw [hb] at this
      simpa using this
  · rintro ⟨h1, h2, o, h3, h4⟩
    refine ⟨h1, ?_, ?_⟩
    · rw [Array.getD_eq_getD_getElem?, Array.getElem?_eq_getElem (by omega)] at h2 ⊢
      simpa using h2
    · rw [h3]
      simp only [Option.map_some, Option.getD_some]
      refine Array.all_eq_true_iff_forall_mem.2 fun e he => ?_
      cases hb : Region.binds .any e with
      | false => rfl
      | true => simpa using h4 e (by simpa using he) hb

theorem unbound {C C1 : CM} (h : C.le C1) {o : Nat} (hn : ∀ v, C o v = none) (ho : o < C.nx) (v : Nat) : C1 o v = none := by
  cases e : C1 o v with
  | none => rfl
  | some L =>
    rcases h.new _ _ _ e with ⟨v', L', e'⟩ | e'
    · rw [hn] at e'; cases e'
    · omega

/-- What is known of the objects that are made, up to a phase. -/
structure Pends (P : Program) (n : Nat) (ops : Array Oper) (k : CallT) (L : List DOp) (E0 Ef : Tr AV) (ord : List DOp) (ph : Nat → Nat) (C0 C : CM) (Hp : Heap) (D : Nat → Prop) (p : Nat) : Prop where
  known : ∀ x ∈ ord, x.c = .al → ¬ Skip P n ops k L E0 Ef x → ph x.i ≤ p → C0.nx ≤ aid Ef x ∧ aid Ef x < Hp.next
  inj : ∀ x ∈ ord, ∀ y ∈ ord, x.c = .al → y.c = .al → ¬ Skip P n ops k L E0 Ef x → ¬ Skip P n ops k L E0 Ef y → ph x.i ≤ p → ph y.i ≤ p → aid Ef x = aid Ef y → x = y
  pend : ∀ x ∈ ord, x.c = .al → ¬ Skip P n ops k L E0 Ef x → ph x.i ≤ p → ¬ D x.i → ∀ v, C (aid Ef x) v = none

/-- An object that is made at last. -/
theorem oper_al (F : Fit P ops L) {x : DOp} (hx : x ∈ L) (hal : x.c = .al) (ho : ops[x.i]? = some x.o) {w0 : World} {C : CM} {H : Heap} {w : World} {E : Tr AV} {a : Act} (hR : Rel w0 C H w) (hE : ER n C E a.tmps)
    (hxE : AgreeX ops L E0 Ef x E) (hat : AlAt P n ops L E0 Ef x H) (hid : aid Ef x < H.next) (hn : ∀ v, C (aid Ef x) v = none) (b : Frame) (rest : List Nat) (kk : List Item) (cs : List Frame) :
    ∃ (Lc : Loc) (w' : World) (xv : Value) (v : AV), Rel w0 (C.ext (aid Ef x) 0 Lc) H w' ∧ C.keep (C.ext (aid Ef x) 0 Lc) ∧ VR (C.ext (aid Ef x) 0 Lc) v xv ∧ (∀ d, x.o.dst = some d → getP (pathOf d) Ef = some v ∧ d < n) ∧
      Steps P (lone (b.atR a (.inRegion ops (x.i :: rest) :: kk)) cs w) (lone (b.atR (a.put x.o.dst xv) (.inRegion ops rest :: kk)) cs w') := by
  obtain ⟨d, v0, g1, g2, g3, g4, g5⟩ := hat
  obtain ⟨hg, v', H', h1, h2, oa, ob', h3, h4, h5⟩ := g5 E hxE
  have hmk := cls_mk (P := P) (o := x.o) (by rw [← F.ok.cl x hx]; exact hal) E H
  rw [h1] at hmk
  obtain ⟨ob, m1, rfl, m3, m4, m5⟩ := hmk
  rw [Heap.get_push_same] at h4
  cases h4
  obtain ⟨blk, n', sz, xv, q1, q2⟩ := m5 C w a.eval (opd_spec hE)
  have hk : C.keep (C.ext (aid Ef x) 0 ⟨w.heap.size, 0, n', sz⟩) := fun o' v' L' h' => by
    by_cases e : o' = aid Ef x ∧ v' = 0
    · obtain ⟨rfl, rfl⟩ := e; rw [hn] at h'; cases h'
    · rw [CM.ext_ne C _ e]; exact h'
  obtain ⟨q3, q4⟩ := q2 _ (aid Ef x) hk (CM.ext_same _ _ _ _)
  obtain ⟨q5, _⟩ := hR.bind hid hn h3 blk ((q4 _ hR.low.size).same h5)
  have hw : Region.wanted x.o (yielded ops a.tmps) = true := by rw [← guardF_spec hE ops x.o]; exact hg
  have hnd := not_defer (P := P) (o := x.o) (E := E) (H := H) (by rw [h1]; intro e; cases e)
  refine ⟨_, _, xv, v0, q5, hk, by rw [h2]; exact q3, fun d' hd' => ?_, .one (step_val ho hw hnd q1)⟩
  rw [g1] at hd'
  cases hd'
  exact ⟨g3, g2⟩

theorem sched (hk : SoundCall P k) (F : Fit P ops L) (hn : n ≤ lim) {ord : List DOp} {s : Nat} (hto : topo ord 0 0 = some s) (hord : ∀ x ∈ ord, x ∈ L) (hall : ∀ i, i < ops.size → bit s i) (hEf : AgreeS L E0 Ef (bit s) Ef)
    {Hb Hc : Nat → Heap} {ph : Nat → Nat} (hU : ∀ p, p ≤ (filterB isCh ord).length → Ups (Hb p) (Hc p))
    (hA : ∀ q c, (filterB isCh ord)[q]? = some c → Spec P n ops k L E0 Ef c (Hc q) (Hb (q + 1)))
    (hB : ∀ x ∈ ord, x.c = .rd → ∃ r, r ≤ (filterB isCh ord).length ∧ (∀ q c, q < r → (filterB isCh ord)[q]? = some c → bit x.m c.i) ∧ ∀ p, r ≤ p → p ≤ (filterB isCh ord).length → (∀ q c, r ≤ q → q < p → (filterB isCh ord)[q]? = some c → ¬ bit c.m x.i) → Spec P n ops k L E0 Ef x (Hc p) (Hc p))
    (hB' : ∀ x ∈ ord, x.c = .quiet → ∀ H2, Spec P n ops k L E0 Ef x H2 H2)
    (hL : ∀ x ∈ ord, x.c = .al → Skip P n ops k L E0 Ef x ∨ AlPh P n ops L E0 Ef (filterB isCh ord) Hb Hc x (ph x.i))
    (hI : ∀ x ∈ ord, ∀ y ∈ ord, x.c = .al → y.c = .al → ¬ Skip P n ops k L E0 Ef x → ¬ Skip P n ops k L E0 Ef y → ph x.i = ph y.i → aid Ef x = aid Ef y → x = y)
    {w0 : World} {C0 : CM} (b : Frame) (kk : List Item) (cs : List Frame) :
    ∀ (fuel t : Nat) (listed : Array Bool) (T : List Nat) (p : Nat) (C : CM) (w : World) (a : Act) (E : Tr AV), listed.size = ops.size → T.length ≤ fuel → (∀ i, i < ops.size → ¬ Done listed i → i ∈ T) →
      AgreeS L E0 Ef (Done listed) E → DC L (Done listed) → Rel w0 C (Hc p) w → ER n C E a.tmps → (∀ q c, (filterB isCh ord)[q]? = some c → (Done listed c.i ↔ q < p)) → p ≤ (filterB isCh ord).length →
      C0.le C → Pends P n ops k L E0 Ef ord ph C0 C (Hc p) (Done listed) p →
      ∃ C' w' a', C0.le C' ∧ Rel w0 C' (Hc (filterB isCh ord).length) w' ∧ ER n C' Ef a'.tmps ∧ a'.defers = a.defers ∧
        Steps P (lone (b.atR a (.inRegion ops (Region.linearise.go .any ops fuel t listed []) :: kk)) cs w) (lone (b.atR a' (.inRegion ops [] :: kk)) cs w') := by
  have hin : ∀ x ∈ L, x ∈ ord := fun x hx => by
    rcases (topo_seen hto x.i).1 (hall x.i (F.ok.op x hx).2) with h | ⟨y, hy, e⟩
    · simp at h
    · rwa [← F.ok.inj y (hord y hy) x hx e]
  have hend : ∀ (listed : Array Bool) (p : Nat) (C : CM) (w : World) (a : Act) (E : Tr AV), (∀ i, i < ops.size → Done listed i) → AgreeS L E0 Ef (Done listed) E → Rel w0 C (Hc p) w → ER n C E a.tmps →
      (∀ q c, (filterB isCh ord)[q]? = some c → (Done listed c.i ↔ q < p)) → p ≤ (filterB isCh ord).length → C0.le C →
      ∃ C' w' a', C0.le C' ∧ Rel w0 C' (Hc (filterB isCh ord).length) w' ∧ ER n C' Ef a'.tmps ∧ a'.defers = a.defers ∧
        Steps P (lone (b.atR a (.inRegion ops [] :: kk)) cs w) (lone (b.atR a' (.inRegion ops [] :: kk)) cs w') := by
    intro listed p C w a E hd hE hR hER hch hp hC0
    have hpl : p = (filterB isCh ord).length := by
      rcases Nat.lt_or_ge p (filterB isCh ord).length with h | h
      · have hm := List.getElem_mem h
        have := (hch p _ (List.getElem?_eq_getElem h)).1 (hd _ (F.ok.op _ (hord _ (filterB_mem.1 hm).1)).2)
        omega
      · omega
    subst hpl
    refine ⟨C, w, a, hC0, hR, ⟨hER.1, hER.2.1, fun t ht => ?_⟩, rfl, .refl _ _⟩
    have e : getP (pathOf t) Ef = getP (pathOf t) E := by
      rw [hE t ht, hEf t ht]
      unfold EnvOf
      have : InS L (bit s) t ↔ InS L (Done listed) t := by
        constructor
        · rintro ⟨y, hy, _, h⟩; exact ⟨y, hy, hd _ (F.ok.op y hy).2, h⟩
        · rintro ⟨y, hy, _, h⟩; exact ⟨y, hy, hall _ (F.ok.op y hy).2, h⟩
      by_cases q : InS L (bit s) t
      · rw [if_pos q, if_pos (this.1 q)]
      · rw [if_neg q, if_neg (fun z => q (this.2 z))]
    rw [e]
    exact hER.2.2 t ht
  intro fuel
  induction fuel with
  | zero =>
    intro t listed T p C w a E hs hT hTm hE hD hR hER hch hp hC0 hPe
    have hd : ∀ i, i < ops.size → Done listed i := fun i hi => by
      by_cases h : Done listed i
      · exact h
      · have := hTm i hi h
        have hT0 : T = [] := List.eq_nil_of_length_eq_zero (by omega)
        rw [hT0] at this
        cases this
    exact hend listed p C w a E hd hE hR hER hch hp hC0
  | succ fuel ih =>
    intro t listed T p C w a E hs hT hTm hE hD hR hER hch hp hC0 hPe
    simp only [Region.linearise.go]
    change ∃ C' w' a', C0.le C' ∧ Rel w0 C' (Hc (filterB isCh ord).length) w' ∧ ER n C' Ef a'.tmps ∧ a'.defers = a.defers ∧
      Steps P (lone (b.atR a (.inRegion ops (match (Region.ready .any ops listed)[t % (Region.ready .any ops listed).length]? with
        | some i => Region.linearise.go .any ops fuel (t / (Region.ready .any ops listed).length) (listed.setIfInBounds i true) [i]
        | none => [].reverse) :: kk)) cs w) (lone (b.atR a' (.inRegion ops [] :: kk)) cs w')
    cases hi : (Region.ready .any ops listed)[t % (Region.ready .any ops listed).length]? with
    | none =>
      have hnil : Region.ready .any ops listed = [] := by
        cases hr : Region.ready .any ops listed with
        | nil => rfl
        | cons x xs =>
          rw [hr] at hi
          have hlt : t % (x :: xs).length < (x :: xs).length := Nat.mod_lt _ (by simp)
          rw [List.getElem?_eq_getElem hlt] at hi
          cases hi
      have hd : ∀ i, i < ops.size → Done listed i := by
        rcases topo_first hto (S := Done listed) (fun j hj => by simp [bit] at hj) with h | ⟨x, hx, h1, h2⟩
        · intro i hi
          obtain ⟨x, hx, rfl⟩ := F.ok.all i hi
          exact h x (hin x hx)
        · have hxL := hord x hx
          obtain ⟨ho, hlt⟩ := F.ok.op x hxL
          have : x.i ∈ Region.ready .any ops listed := (mem_ready hs).2 ⟨hlt, h1, x.o, ho, fun e he hb => h2 _ (F.ok.edge x hxL e he hb)⟩
          rw [hnil] at this
          cases this
      exact hend listed p C w a E hd hE hR hER hch hp hC0
    | some i =>
      dsimp only
      rw [linearise_go_acc, List.reverse_singleton, List.singleton_append]
      obtain ⟨hlt, hnd, o, ho, hdeps⟩ := (mem_ready hs).1 (List.mem_of_getElem? hi)
      obtain ⟨x, hx, rfl⟩ := F.ok.all i hlt
      have hox := (F.ok.op x hx).1
      rw [ho] at hox
      cases hox
      have hmask : ∀ j, bit x.m j → Done listed j := fun j hj => by
        obtain ⟨e, he, hb, rfl | ⟨y, hy, e1, e2⟩⟩ := F.ok.msk x hx j hj
        · exact hdeps e he hb
        · exact hD y hy (by rw [e1]; exact hdeps e he hb) j e2
      have hxE : AgreeX ops L E0 Ef x E := agree F hD hx hmask (.inl hnd) hE
      have hxo := hin x hx
      -- what it does here
      have hstep : ∃ p' C1 w1 xv v, C0.le C1 ∧ Rel w0 C1 (Hc p') w1 ∧ ER n C1 (putE x.o.dst v E) (a.put x.o.dst xv).tmps ∧ (∀ d, x.o.dst = some d → getP (pathOf d) Ef = some v ∧ d < n) ∧
          Steps P (lone (b.atR a (.inRegion ops (x.i :: Region.linearise.go .any ops fuel (t / (Region.ready .any ops listed).length) (listed.setIfInBounds x.i true) []) :: kk)) cs w)
            (lone (b.atR (a.put x.o.dst xv) (.inRegion ops (Region.linearise.go .any ops fuel (t / (Region.ready .any ops listed).length) (listed.setIfInBounds x.i true) []) :: kk)) cs w1) ∧
          p' ≤ (filterB isCh ord).length ∧ (∀ q c, (filterB isCh ord)[q]? = some c → ((Done listed c.i ∨ c.i = x.i) ↔ q < p')) ∧
          Pends P n ops k L E0 Ef ord ph C0 C1 (Hc p') (fun j => Done listed j ∨ j = x.i) p' := by
        have hsame : x.c ≠ .ch → ∀ q c, (filterB isCh ord)[q]? = some c → ((Done listed c.i ∨ c.i = x.i) ↔ q < p) := fun hne q c hq => by
          rw [← hch q c hq]
          constructor
          · rintro (h | h)
            · exact h
            · obtain ⟨hm, hc⟩ := filterB_mem.1 (List.mem_iff_getElem?.2 ⟨_, hq⟩)
              rw [F.ok.inj c (hord c hm) x hx h] at hc
              exact absurd (isCh_iff.1 hc) hne
          · exact .inl
        have hahead : ∀ r, r ≤ (filterB isCh ord).length → (∀ q c, q < r → (filterB isCh ord)[q]? = some c → bit x.m c.i) → r ≤ p := fun r u0 u1 => by
          rcases Nat.lt_or_ge p r with h | h
          · have hpl : p < (filterB isCh ord).length := by omega
            have := (hch p _ (List.getElem?_eq_getElem hpl)).1 (hmask _ (u1 p _ h (List.getElem?_eq_getElem hpl)))
            omega
          · exact h
        have hnone : ∀ r q c, r ≤ q → q < p → (filterB isCh ord)[q]? = some c → ¬ bit c.m x.i := fun r q c _ hq hqc hb => by
          have hm := (filterB_mem.1 (List.mem_iff_getElem?.2 ⟨_, hqc⟩)).1
          exact hnd (hD c (hord c hm) ((hch q c hqc).2 hq) _ hb)
        -- an operation that leaves the heap as it is
        have hstay := fun (hne : x.c ≠ .ch) (hsp : Spec P n ops k L E0 Ef x (Hc p) (Hc p)) => show ∃ p' C1 w1 xv v, C0.le C1 ∧ Rel w0 C1 (Hc p') w1 ∧ ER n C1 (putE x.o.dst v E) (a.put x.o.dst xv).tmps ∧ (∀ d, x.o.dst = some d → getP (pathOf d) Ef = some v ∧ d < n) ∧
          Steps P (lone (b.atR a (.inRegion ops (x.i :: Region.linearise.go .any ops fuel (t / (Region.ready .any ops listed).length) (listed.setIfInBounds x.i true) []) :: kk)) cs w)
            (lone (b.atR (a.put x.o.dst xv) (.inRegion ops (Region.linearise.go .any ops fuel (t / (Region.ready .any ops listed).length) (listed.setIfInBounds x.i true) []) :: kk)) cs w1) ∧
          p' ≤ (filterB isCh ord).length ∧ (∀ q c, (filterB isCh ord)[q]? = some c → ((Done listed c.i ∨ c.i = x.i) ↔ q < p')) ∧
          Pends P n ops k L E0 Ef ord ph C0 C1 (Hc p') (fun j => Done listed j ∨ j = x.i) p' from by
          obtain ⟨v, hrun, hfin⟩ := hsp E hxE
          obtain ⟨C1, w1, xv, av, q1, q2, q3, q4, q5, q6⟩ := oper_core hk ho hR hER hrun b (Region.linearise.go .any ops fuel (t / (Region.ready .any ops listed).length) (listed.setIfInBounds x.i true) []) kk cs
          refine ⟨p, C1, w1, xv, v, CM.le_trans hC0 q1, q2, by rw [q4]; exact (hER.mono q1).put q5 q3, hfin, q6, hp, hsame hne, ⟨hPe.known, hPe.inj, fun y hy hyc hys hyp hyd v => ?_⟩⟩
          exact unbound q1 (hPe.pend y hy hyc hys hyp (fun h => hyd (.inl h))) (by rw [hR.nx]; exact (hPe.known y hy hyc hys hyp).2) v
        cases hc : x.c with
        | quiet => exact hstay (by rw [hc]; exact fun e => by cases e) (hB' x hxo hc _)
        | rd =>
          obtain ⟨r, u0, u1, u2⟩ := hB x hxo hc
          exact hstay (by rw [hc]; exact fun e => by cases e) (u2 p (hahead r u0 u1) hp (hnone r))
        | al =>
          by_cases hsk : Skip P n ops k L E0 Ef x
          · exact hstay (by rw [hc]; exact fun e => by cases e) (hsk _)
          · rcases hL x hxo hc with h | ⟨u0, u1, u2, u3, u4⟩
            · exact absurd h hsk
            · have hrp := hahead _ u0 u1
              have hat := u4 p hrp hp (hnone _)
              obtain ⟨k1, k2⟩ := hPe.known x hxo hc hsk hrp
              have hunb := hPe.pend x hxo hc hsk hrp hnd
              obtain ⟨Lc, w1, xv, v, q1, q2, q3, q4, q5⟩ := oper_al F hx hc ho hR hER hxE hat k2 hunb b (Region.linearise.go .any ops fuel (t / (Region.ready .any ops listed).length) (listed.setIfInBounds x.i true) []) kk cs
              refine ⟨p, _, w1, xv, v, ⟨fun o v L h => q2 _ _ _ (hC0.keep _ _ _ h), Nat.le_trans hC0.nx (Nat.le_max_left _ _), fun o v L h => ?_⟩, q1, (hER.mono' q2).put (fun t ht => (q4 t ht).2) q3, q4, q5, hp, hsame (by rw [hc]; exact fun e => by cases e),
                ⟨hPe.known, hPe.inj, fun y hy hyc hys hyp hyd v => ?_⟩⟩
              · by_cases e : o = aid Ef x ∧ v = 0
                · obtain ⟨rfl, rfl⟩ := e; exact .inr k1
                · rw [CM.ext_ne _ _ e] at h; exact hC0.new _ _ _ h
              · have hne : aid Ef y ≠ aid Ef x := fun e => hyd (.inr (by rw [hPe.inj y hy x hxo hyc hc hys hsk hyp hrp e]))
                rw [CM.ext_ne _ _ (fun e => hne e.1)]
                exact hPe.pend y hy hyc hys hyp (fun h => hyd (.inl h)) v
        | ch =>
          obtain ⟨q, hq⟩ := List.mem_iff_getElem?.1 (filterB_mem.2 ⟨hxo, isCh_iff.2 hc⟩)
          have hq1 : ¬ q < p := fun h => hnd ((hch q x hq).2 h)
          have hql := (List.getElem?_eq_some_iff.1 hq).1
          have hqp : q = p := by
            rcases Nat.lt_or_ge p q with h | h
            · have hpl : p < (filterB isCh ord).length := by omega
              have := (hch p _ (List.getElem?_eq_getElem hpl)).1 (hmask _ (chain_order hto p q _ x h (List.getElem?_eq_getElem hpl) hq))
              omega
            · omega
          subst hqp
          obtain ⟨v, hrun, hfin⟩ := hA q x hq E hxE
          obtain ⟨C1, w1, xv, av, q1, q2, q3, q4, q5, q6⟩ := oper_core hk ho hR hER hrun b (Region.linearise.go .any ops fuel (t / (Region.ready .any ops listed).length) (listed.setIfInBounds x.i true) []) kk cs
          have hups := hU (q + 1) (by omega)
          have hle : C1.le (C1.lift (Hc (q + 1)).next) := CM.le_lift (by rw [q2.nx]; exact hups.next)
          have hnx : (Hc q).next ≤ (Hb (q + 1)).next := by rw [← hR.nx, ← q2.nx]; exact q1.nx
          have hnew : ∀ y ∈ ord, y.c = .al → ¬ Skip P n ops k L E0 Ef y → ph y.i = q + 1 → (Hb (q + 1)).next ≤ aid Ef y ∧ aid Ef y < (Hc (q + 1)).next := fun y hy hyc hys hyp => by
            rcases hL y hy hyc with h | ⟨_, _, u2, u3, _⟩
            · exact absurd h hys
            · rw [hyp] at u2 u3; exact ⟨u2, u3⟩
          have hun := hups.next
          refine ⟨q + 1, C1.lift (Hc (q + 1)).next, w1, xv, v, CM.le_trans hC0 (CM.le_trans q1 hle), q2.ups hups, by rw [q4]; exact ((hER.mono q1).put q5 q3).mono hle, hfin, q6, by omega, fun q' c hq' => ?_, ⟨fun y hy hyc hys hyp => ?_, fun y hy z hz hyc hzc hys hzs hyp hzp hid => ?_, fun y hy hyc hys hyp hyd v => ?_⟩⟩
          · rw [hch q' c hq']
            constructor
            · rintro (h | h)
              · omega
              · have hm := (filterB_mem.1 (List.mem_iff_getElem?.2 ⟨_, hq'⟩)).1
                have e := F.ok.inj c (hord c hm) x hx h
                subst e
                rcases Nat.lt_trichotomy q' q with h' | h' | h'
                · omega
                · omega
                · exact absurd (hmask _ (chain_order hto q q' c c h' hq hq')) hnd
            · intro h
              rcases Nat.lt_or_ge q' q with h' | h'
              · exact .inl h'
              · have : q' = q := by omega
                subst this
                rw [hq] at hq'
                cases hq'
                exact .inr rfl
          · rcases Nat.lt_or_ge (ph y.i) (q + 1) with h | h
            · obtain ⟨k1, k2⟩ := hPe.known y hy hyc hys (by omega)
              exact ⟨k1, by omega⟩
            · obtain ⟨k1, k2⟩ := hnew y hy hyc hys (by omega)
              have := (CM.le_trans hC0 q1).nx
              rw [q2.nx] at this
              exact ⟨Nat.le_trans this k1, k2⟩
          · rcases Nat.lt_or_ge (ph y.i) (q + 1) with h | h <;> rcases Nat.lt_or_ge (ph z.i) (q + 1) with h' | h'
            · exact hPe.inj y hy z hz hyc hzc hys hzs (by omega) (by omega) hid
            · have k1 := (hPe.known y hy hyc hys (by omega)).2
              have k2 := (hnew z hz hzc hzs (by omega)).1
              omega
            · have k1 := (hPe.known z hz hzc hzs (by omega)).2
              have k2 := (hnew y hy hyc hys (by omega)).1
              omega
            · exact hI y hy z hz hyc hzc hys hzs (by omega) hid
          · show C1.f (aid Ef y) v = none
            rcases Nat.lt_or_ge (ph y.i) (q + 1) with h | h
            · exact unbound q1 (hPe.pend y hy hyc hys (by omega) (fun h => hyd (.inl h))) (by rw [hR.nx]; exact (hPe.known y hy hyc hys (by omega)).2) v
            · have k1 := (hnew y hy hyc hys (by omega)).1
              cases e : C1.f (aid Ef y) v with
              | none => rfl
              | some L' => have := q2.fresh _ _ _ e; omega
      obtain ⟨p', C1, w1, xv, v, q1, q2, hER1, hfin, q6, hp', hch', hPe'⟩ := hstep
      have hset := done_set (listed := listed) (i := x.i) (by omega)
      have hseq : Done (listed.setIfInBounds x.i true) = fun j => Done listed j ∨ j = x.i := funext fun j => propext (hset j)
      have hE1 : AgreeS L E0 Ef (Done (listed.setIfInBounds x.i true)) (putE x.o.dst v E) := by
        have := hE.put F hn hx hfin
        rw [hseq]
        exact this
      obtain ⟨C2, w2, a2, r1, r2, r3, r4, r5⟩ := ih (t / (Region.ready .any ops listed).length) (listed.setIfInBounds x.i true) (T.erase x.i) p' C1 w1 (a.put x.o.dst xv) (putE x.o.dst v E) (by simpa using hs)
        (by
          have := List.length_erase_of_mem (hTm x.i hlt hnd)
          omega)
        (fun j hj hjd => by
          rw [hset] at hjd
          have h1 : ¬ Done listed j := fun h => hjd (.inl h)
          have h2 : j ≠ x.i := fun h => hjd (.inr h)
          exact (List.mem_erase_of_ne h2).2 (hTm j hj h1))
        hE1
        (fun y hy hd j hj => by
          rw [hset] at hd ⊢
          rcases hd with hd | hd
          · exact .inl (hD y hy hd j hj)
          · rw [F.ok.inj y hy x hx hd] at hj
            exact .inl (hmask j hj))
        q2 hER1 (fun q c hq => by rw [hset]; exact hch' q c hq) hp' q1 (by rw [hseq]; exact hPe')
      refine ⟨C2, w2, a2, r1, r2, r3, ?_, Steps.trans q6 r5⟩
      rw [r4]
      cases x.o.dst <;> rfl

/-- A region whose order is drawn. -/
theorem draw_sound (hm : P.follows .mixedOrders = true) (hk : SoundCall P k) {w0 : World} {C : CM} {H H' : Heap} {w : World} {E E' : Tr AV} {a : Act} {id : Nat} (hR : Rel w0 C H w) (hE : ER n C E a.tmps)
    (h : (compDraw P n ops).run k E H = .ok E' H') (b : Frame) (kk : List Item) (cs : List Frame) :
    ∃ C' w' a', C.le C' ∧ Rel w0 C' H' w' ∧ ER n C' E' a'.tmps ∧ a'.defers = a.defers ∧
      Steps P (lone (b.atR a (.code (.region id ops true) :: kk)) cs w) (lone (b.atR a' kk) cs w') := by
  unfold compDraw at h
  dsimp only at h
  generalize hL : dops P ops ops.toList [] 0 = L at h
  have hok : LOk P ops L := hL ▸ dops_ok P ops
  generalize hO : ordOf L (filterB isCh L) = ord at h
  have hord : ∀ x ∈ ord, x ∈ L := fun x hx => ordOf_sub x (by rw [hO]; exact hx)
  split at h
  · rename_i hd
    unfold drawOk at hd
    split at hd
    · cases hd
    · rename_i s hto
      split at hd
      · cases hd
      · rename_i hs
        split at hd
        · cases hd
        · rename_i hds
          have hse : s = 2 ^ ops.size - 1 := Nat.eq_of_beq_eq_true (by simpa using hs)
          have F : Fit P ops L := ⟨hok, (dstsOk_spec (by simpa using hds)).2, fun x hx y hy => allB_mem (allB_mem hd x hx) y hy⟩
          have hn := hE.2.1
          have h0 : AgreeS L E E' (bit 0) E := fun t ht => by
            unfold EnvOf
            rw [if_neg]
            rintro ⟨y, _, hy, _⟩
            simp [bit] at hy
          obtain ⟨r0, _, Hb, Hc, ph, r1, r2, ru, r3, r4, r5, ra, ri, _⟩ := canon (E0 := E) F hn ord [] 0 0 s E H H' h hto hord (fun x hx => by cases hx) h0 (fun y _ hy => by simp [bit] at hy)
          have hall : ∀ i, i < ops.size → bit s i := fun i hi => by
            unfold bit
            rw [hse, Nat.testBit_two_pow_sub_one]
            simpa using hi
          have hnot : ∀ i, ¬ Done (Array.replicate ops.size false) i := fun i hi => by
            unfold Done at hi
            rw [Array.getD_eq_getD_getElem?, Array.getElem?_replicate] at hi
            split at hi <;> cases hi
          have hu0 := ru 0 (Nat.zero_le _)
          rw [r1] at hu0
          have hR1 : Rel w0 (C.lift (Hc 0).next) (Hc 0) w.drew := hR.drew.ups hu0
          have hle0 : C.le (C.lift (Hc 0).next) := CM.le_lift (by rw [hR.nx]; exact hu0.next)
          have hlow0 : ∀ y ∈ ord, y.c = .al → ¬ Skip P n ops k L E E' y → ph y.i = 0 → H.next ≤ aid E' y ∧ aid E' y < (Hc 0).next := fun y hy hyc hys hyp => by
            rcases ra y hy hyc with h | ⟨_, _, u2, u3, _⟩
            · exact absurd h hys
            · rw [hyp] at u2 u3; rw [r1] at u2; exact ⟨u2, u3⟩
          have hPe0 : Pends P n ops k L E E' ord ph C (C.lift (Hc 0).next) (Hc 0) (Done (Array.replicate ops.size false)) 0 := by
            refine ⟨fun y hy hyc hys hyp => ?_, fun y hy z hz hyc hzc hys hzs hyp hzp hid => ri y hy z hz hyc hzc hys hzs (by omega) hid, fun y hy hyc hys hyp _ v => ?_⟩
            · obtain ⟨k1, k2⟩ := hlow0 y hy hyc hys (by omega)
              rw [← hR.nx] at k1
              exact ⟨k1, k2⟩
            · obtain ⟨k1, k2⟩ := hlow0 y hy hyc hys (by omega)
              show C.f (aid E' y) v = none
              cases e : C.f (aid E' y) v with
              | none => rfl
              | some L' => have := hR.fresh _ _ _ e; omega
          have hsched : Region.schedule (P.follows .mixedOrders) ops (w.tape w.drawn (.order b.fn id)) = Region.linearise.go .any ops ops.size (w.tape w.drawn (.order b.fn id)) (Array.replicate ops.size false) [] := by
            simp only [Region.schedule, hm, Bool.true_or, if_true]
            rfl
          obtain ⟨C', w', a', q1, q2, q3, q4, q5⟩ := sched hk F hn hto hord hall r0 ru r3 r4 r5 ra ri b kk cs ops.size (w.tape w.drawn (.order b.fn id)) (Array.replicate ops.size false) (List.range ops.size) 0 (C.lift (Hc 0).next) w.drew a E
            (by simp) (by simp) (fun i hi _ => by simpa using hi) (fun t ht => by
              unfold EnvOf
              rw [if_neg]
              rintro ⟨y, _, hy, _⟩
              exact hnot _ hy) (fun y _ hy => absurd hy (hnot _)) hR1 (hE.mono hle0) (fun q c _ => ⟨fun h => absurd h (hnot _), fun h => absurd h (Nat.not_lt_zero q)⟩) (Nat.zero_le _) hle0 hPe0
          refine ⟨C', w', a', q1, by rw [← r2]; exact q2, q3, q4, .head stepR_region_draw ?_⟩
          rw [hsched]
          exact Steps.trans q5 (.one stepR_region_end)
  · cases h

/-- A region in the text's order. -/
theorem region_sound (hk : SoundCall P k) {w0 : World} {C : CM} {H H' : Heap} {w : World} {E E' : Tr AV} {a : Act} {id : Nat} (hR : Rel w0 C H w) (hE : ER n C E a.tmps)
    (h : (compOps P n ops ops.toList).run k E H = .ok E' H') (b : Frame) (kk : List Item) (cs : List Frame) :
    ∃ C' w' a', C.le C' ∧ Rel w0 C' H' w' ∧ ER n C' E' a'.tmps ∧ a'.defers = a.defers ∧
      Steps P (lone (b.atR a (.code (.region id ops false) :: kk)) cs w) (lone (b.atR a' kk) cs w') := by
  obtain ⟨C', w', a', q1, q2, q3, q4, q5⟩ := ops_sound hk b kk cs ops.toList 0 rfl hR hE h
  refine ⟨C', w', a', q1, q2, q3, q4, .head stepR_region ?_⟩
  rw [List.range_eq_range']
  exact Steps.trans q5 (.one stepR_region_end)
end sched

end Go.Sv
