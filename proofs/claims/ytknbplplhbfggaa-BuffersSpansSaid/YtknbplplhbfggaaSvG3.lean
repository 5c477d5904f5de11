/- What an operation comes to in the logic, the evaluator's operation comes to: every operation. -/
import Derived.Test.YtknbplplhbfggaaSvG2
namespace Go.Sv

section res
variable {P : Program} {c : Cx} {G : LHeap} {K : LV → LHeap → Prop}

theorem cutSl_any (l h m o v i esz : Nat) (hlh : l ≤ h) (hhm : h ≤ m) : (h - l = 0 ∧ cutSl l h m o v i esz = .emp ∧ l ≠ 0) ∨ ∃ room', cutSl l h m o v i esz = .sl o v (i + l * esz) (h - l) esz room' ∧ ∀ r, room' = some r → h - l ≤ r := by
  unfold cutSl
  cases h1 : Nat.beq l m with
  | true =>
    have e1 := Nat.eq_of_beq_eq_true h1
    cases h2 : Nat.beq l 0 with
    | true =>
      have e2 := Nat.eq_of_beq_eq_true h2
      have : h - l = 0 := by omega
      refine .inr ⟨some 0, ?_, fun r _ => by omega⟩
      rw [this, e2]; simp
    | false => exact .inl ⟨by omega, rfl, fun e => by subst e; cases h2⟩
  | false => exact .inr ⟨_, rfl, fun r e => by cases e; show h - l ≤ m - l; omega⟩
/-- What slicing gives, whatever room there is. -/
theorem sliceSl_any {lo hi : Option Nat} {o v i len esz : Nat} {room : Option Nat} (hlh : lo.getD 0 ≤ hi.getD len) (hh : hi.getD len ≤ len) (hr : ∀ r, room = some r → len ≤ r) :
    ∃ a, sliceSl esz lo hi none o v i len esz room = some a ∧ slish a = true ∧ ((hi.getD len - lo.getD 0 = 0 ∧ a = .emp ∧ lo.getD 0 ≠ 0) ∨ ∃ room', a = .sl o v (i + lo.getD 0 * esz) (hi.getD len - lo.getD 0) esz room' ∧ ∀ r, room' = some r → hi.getD len - lo.getD 0 ≤ r) := by
  generalize hl : lo.getD 0 = l at hlh
  generalize hx : hi.getD len = h at hlh hh
  have key : ∀ a, ((h - l = 0 ∧ a = .emp ∧ l ≠ 0) ∨ ∃ room', a = AV.sl o v (i + l * esz) (h - l) esz room' ∧ ∀ r, room' = some r → h - l ≤ r) → slish a = true := by
    rintro a (⟨_, rfl, _⟩ | ⟨_, rfl, _⟩) <;> rfl
  unfold sliceSl
  rw [Nat.beq_refl, hl, hx]
  dsimp only
  unfold sliceSl'
  have b1 : Nat.ble l h = true := Nat.ble_eq_true_of_le hlh
  cases room with
  | some r =>
    have b2 : Nat.ble h ((some r).getD len) = true := Nat.ble_eq_true_of_le (by have := hr r rfl; show h ≤ r; omega)
    rw [b1, b2]
    dsimp only
    have := cutSl_any l h r o v i esz hlh (by have := hr r rfl; omega)
    exact ⟨_, rfl, key _ this, this⟩
  | none =>
    have b2 : Nat.ble h ((none : Option Nat).getD len) = true := Nat.ble_eq_true_of_le hh
    rw [b1, b2]
    dsimp only
    cases h2 : Nat.beq l 0 with
    | true =>
      have e2 := Nat.eq_of_beq_eq_true h2
      have : (h - l = 0 ∧ (AV.sl o v i h esz none) = .emp ∧ l ≠ 0) ∨ ∃ room', AV.sl o v i h esz none = AV.sl o v (i + l * esz) (h - l) esz room' ∧ ∀ r, room' = some r → h - l ≤ r := .inr ⟨none, by rw [e2]; simp, fun r e => by cases e⟩
      exact ⟨_, rfl, key _ this, this⟩
    | false =>
      cases h3 : Nat.beq l h with
      | true =>
        have e3 := Nat.eq_of_beq_eq_true h3
        exact ⟨_, rfl, rfl, .inl ⟨by omega, rfl, fun e => by subst e; cases h2⟩⟩
      | false => exact ⟨_, rfl, rfl, .inr ⟨none, rfl, fun r e => by cases e⟩⟩

theorem sliceSl_any3 {lo hi : Option Nat} {o v i len esz m : Nat} {room : Option Nat} (hlh : lo.getD 0 ≤ hi.getD len) (hh : hi.getD len ≤ m) (hm : m ≤ len) (hr : ∀ r, room = some r → len ≤ r) :
    ∃ a, sliceSl esz lo hi (some m) o v i len esz room = some a ∧ slish a = true ∧ ((hi.getD len - lo.getD 0 = 0 ∧ a = .emp ∧ lo.getD 0 ≠ 0) ∨ ∃ room', a = .sl o v (i + lo.getD 0 * esz) (hi.getD len - lo.getD 0) esz room' ∧ ∀ r, room' = some r → hi.getD len - lo.getD 0 ≤ r) := by
  generalize hl : lo.getD 0 = l at hlh
  generalize hx : hi.getD len = h at hlh hh
  have key : ∀ a, ((h - l = 0 ∧ a = .emp ∧ l ≠ 0) ∨ ∃ room', a = AV.sl o v (i + l * esz) (h - l) esz room' ∧ ∀ r, room' = some r → h - l ≤ r) → slish a = true := by
    rintro a (⟨_, rfl, _⟩ | ⟨_, rfl, _⟩) <;> rfl
  unfold sliceSl
  rw [Nat.beq_refl, hl, hx]
  dsimp only
  unfold sliceSl'
  have hmost : m ≤ room.getD len := by
    cases room with
    | none => exact hm
    | some r => have := hr r rfl; show m ≤ r; omega
  rw [show Nat.ble l h = true from Nat.ble_eq_true_of_le hlh, show Nat.ble h (room.getD len) = true from Nat.ble_eq_true_of_le (Nat.le_trans hh hmost)]
  dsimp only
  rw [show Nat.ble h m = true from Nat.ble_eq_true_of_le hh, show Nat.ble m (room.getD len) = true from Nat.ble_eq_true_of_le hmost]
  dsimp only
  have := cutSl_any l h m o v i esz hlh hh
  exact ⟨_, rfl, key _ this, this⟩

theorem sliceSl_keep {lo hi : Option Nat} {size o v i len esz : Nat} {room : Option Nat} {a : AV} (h : sliceSl size lo hi none o v i len esz room = some a) (h0 : lo.getD 0 = 0) : ∃ i' n, a = .sl o v i' n esz room := by
  unfold sliceSl at h
  split at h
  · cases h
  rw [h0] at h
  unfold sliceSl' at h
  split at h
  · cases h
  split at h
  · cases h
  dsimp only at h
  cases room with
  | some r =>
    dsimp only at h
    cases h
    unfold cutSl
    split
    · rename_i h1
      have := Nat.eq_of_beq_eq_true h1
      subst this
      exact ⟨_, _, rfl⟩
    · exact ⟨_, _, rfl⟩
  | none =>
    dsimp only at h
    cases h
    exact ⟨_, _, rfl⟩
theorem sliceSl_tied {lo hi : Option Nat} {size o v i len esz n0 : Nat} {room : Option Nat} {a hh : AV} (h : sliceSl size lo hi none o v i len esz room = some a) (h0 : n0 = 0 → lo.getD 0 = 0) (r2 : hh = .sl o v 0 len esz room) : tied n0 hh a := by
  intro hn
  obtain ⟨i', n, rfl⟩ := sliceSl_keep h (h0 hn)
  subst r2
  exact .inl rfl
theorem sliceSl_tied2 {lo hi : Option Nat} {size o v i len esz n0 m0 i2 n2 : Nat} {room' : Option Nat} {a hh : AV} (h : sliceSl size lo hi none o v i len esz room' = some a) (h0 : n0 = 0 → lo.getD 0 = 0 ∧ m0 = 0) (hz : tied m0 hh (.sl o v i2 n2 esz room')) : tied n0 hh a := by
  intro hn
  obtain ⟨i', n, rfl⟩ := sliceSl_keep h (h0 hn).1
  exact hz (h0 hn).2
theorem sliceSl_tied3 {lo hi : Option Nat} {size o v i len esz m n0 : Nat} {room : Option Nat} {a hh : AV} (h : sliceSl size lo hi (some m) o v i len esz room = some a) (h0 : n0 = 0 → lo.getD 0 = 0) (hm : m ≤ len) (r2 : hh = .sl o v 0 len esz room) : tied n0 hh a := by
  intro hn
  have h0 := h0 hn
  subst r2
  unfold sliceSl at h
  split at h
  · cases h
  rw [h0] at h
  unfold sliceSl' at h
  split at h
  · cases h
  split at h
  · cases h
  dsimp only at h
  split at h
  · cases h
  split at h
  · cases h
  cases h
  have hc : ∃ (i' n r : Nat), cutSl 0 (hi.getD len) m o v i esz = .sl o v i' n esz (some r) ∧ r ≤ m := by
    unfold cutSl
    cases Nat.beq 0 m with
    | true => exact ⟨_, _, 0, rfl, Nat.zero_le _⟩
    | false => exact ⟨_, _, m - 0, rfl, Nat.sub_le _ _⟩
  obtain ⟨i', n, r, e, hr⟩ := hc
  rw [e]
  exact .inr ⟨r, rfl, by omega⟩

theorem AR.lst' {l : List LV} {len esz : Nat} {a : AV} {o v i n : Nat} {l' : List AV} {j : Nat} (hf : c.Fz o) (hr : readAt c.H o v i n = some l') (hl : ARs c l l') (hle : j * esz + len * esz ≤ n)
    (ha : (len = 0 ∧ a = .emp) ∨ ∃ room, a = .sl o v (i + j * esz) len esz room ∧ ∀ r, room = some r → len ≤ r) : AR c (.lst ((l.drop (j * esz)).take (len * esz)) len esz) a := by
  have hn := readAt_length hr
  have hll := hl.length
  rcases ha with ⟨rfl, rfl⟩ | ⟨room, rfl, hrm⟩
  · simp only [Nat.zero_mul, List.take_zero]; exact .lstEmp
  · exact .lst hf hrm (by simp; omega) (readAt_sub hr hle) ((hl.drop _).take _)

theorem maxi_i (mx : Bool) (a b : Int) : foldMax mx (.int .i64 a) [.int .i64 b] = some (.int .i64 (match mx with | true => max a b | false => min a b)) := by
  have hk : kindEq .i64 .i64 = true := rfl
  simp only [foldMax, maxA, hk]
  cases mx with
  | true =>
    simp only [ltI_dec]
    by_cases h : a < b
    · rw [decide_eq_true h]; simp only; congr 2; omega
    · rw [decide_eq_false h]; simp only; congr 2; omega
  | false =>
    simp only [ltI_dec]
    by_cases h : b < a
    · rw [decide_eq_true h]; simp only; congr 2; omega
    · rw [decide_eq_false h]; simp only; congr 2; omega
theorem maxi_i3 (mx : Bool) (a b d : Int) : foldMax mx (.int .i64 a) [.int .i64 b, .int .i64 d] = some (.int .i64 (match mx with | true => max (max a b) d | false => min (min a b) d)) := by
  cases mx with
  | true =>
    have h1 := maxi_i true a b
    have h2 := maxi_i true (max a b) d
    simp only [foldMax] at h1 h2 ⊢
    cases hm : maxA true (.int .i64 a) (.int .i64 b) with
    | none => rw [hm] at h1; cases h1
    | some r =>
      rw [hm] at h1
      simp only [Option.some.injEq] at h1
      subst h1
      exact h2
  | false =>
    have h1 := maxi_i false a b
    have h2 := maxi_i false (min a b) d
    simp only [foldMax] at h1 h2 ⊢
    cases hm : maxA false (.int .i64 a) (.int .i64 b) with
    | none => rw [hm] at h1; cases h1
    | some r =>
      rw [hm] at h1
      simp only [Option.some.injEq] at h1
      subst h1
      exact h2
theorem maxi_u (mx : Bool) (a b : UInt64) : foldMax mx (.int .u64 (Int.ofNat a.toNat)) [.int .u64 (Int.ofNat b.toNat)] = some (.int .u64 (Int.ofNat (match mx with | true => if a < b then b else a | false => if b < a then b else a : UInt64).toNat)) := by
  have hk : kindEq .u64 .u64 = true := rfl
  simp only [foldMax, maxA, hk]
  cases mx with
  | true =>
    simp only [ltI_dec, dec_u_lt]
    by_cases h : a < b
    · rw [decide_eq_true h, if_pos h]
    · rw [decide_eq_false h, if_neg h]
  | false =>
    simp only [ltI_dec, dec_u_lt]
    by_cases h : b < a
    · rw [decide_eq_true h, if_pos h]
    · rw [decide_eq_false h, if_neg h]

theorem bytesA_map : ∀ l : List UInt8, convF.bytesA (l.map fun b => AV.int .u8 (Int.ofNat b.toNat)) = some (packL l)
  | [] => rfl
  | b :: l => by
    have hb := b.toNat_lt
    have h : Nat.blt b.toNat 256 = true := by unfold Nat.blt; exact Nat.ble_eq_true_of_le hb
    simp only [List.map_cons, convF.bytesA, h, if_true, bytesA_map l, packL]
theorem ARs_b : ∀ {bs : List UInt8} {l' : List AV}, ARs c (bs.map LV.b) l' → l' = bs.map fun b => AV.int .u8 (Int.ofNat b.toNat)
  | [], l', h => by cases h; rfl
  | b :: bs, l', h => by
    cases h with
    | cons h hs => cases h; rw [ARs_b hs]; rfl

theorem bytL_ok (hs : HSim c G) {x : LV} {a : AV} {K : List LV → Prop} (hx : AR c x a) (h : bytL G x K) : ∃ l l', ARs c l l' ∧ K l ∧ ((a = .nilSl ∧ l' = []) ∨ ∃ o v i room, a = .sl o v i l'.length 1 room ∧ readAt c.H o v i l'.length = some l') := by
  unfold bytL at h
  split at h
  · cases hx; exact ⟨[], [], .nil, h, .inl ⟨rfl, rfl⟩⟩
  · rename_i p k
    split at h
    · rename_i l len esz ver st hg
      obtain ⟨hk0, rfl, h⟩ := h
      cases hx with
      | @dy _ _ k' hh _ e hk ha _ =>
        obtain ⟨r0, r1, r2⟩ := hs.obj p _ _ _ hg e
        have hha := ha (by omega)
        rcases r2 with ⟨r2, r3⟩ | ⟨o, v, room, t, clen, l', r2, r3, r4, r5, r6, _⟩
        · subst r3
          have : l = [] := List.eq_nil_of_length_eq_zero (by simpa using r1)
          subst this
          exact ⟨[], [], .nil, h, .inl ⟨hha.trans r2, rfl⟩⟩
        · have hl' : l'.length = len * 1 := by rw [← r6.length]; exact r1
          have hr := readAt_of (i := 0) (n := len * 1) r3 r5 r4 (by omega)
          rw [Nat.mul_one] at hl' hr
          refine ⟨l, l', r6, h, .inr ⟨o, v, 0, room, by rw [hha, r2, hl'], ?_⟩⟩
          rw [hl', hr, List.drop_zero, List.take_of_length_le (by omega)]
    · exact h.elim
  · rename_i l len esz
    obtain ⟨rfl, hne, h⟩ := h
    cases hx with
    | lst hf hrm hlen hr hl =>
      have hl' := readAt_length hr
      rw [Nat.mul_one] at hl' hr
      refine ⟨l, _, hl, h, .inr ⟨_, _, _, _, by rw [hl'], by rw [hl']; exact hr⟩⟩
    | lstNil => exact absurd rfl hne
    | lstEmp => exact absurd rfl hne
  · exact h.elim

theorem OpL_ok (hs : HSim c G) {ρ : LEnv} {E : Tr AV} (hE : EnvL c ρ E) {o : LOp} (hok : o.ok = true) (h : OpL P ρ G o K) : OpRes P c G K (evR P (ρA E) c.H o.r) := by
  cases o with
  | move x => exact .same hs (Lx_ok hE hok) h
  | pick cc a b =>
    simp only [LOp.ok, Bool.and_eq_true] at hok
    have hc := Lx_ok hE hok.1.1
    have ha := Lx_ok hE hok.1.2
    have hb := Lx_ok hE hok.2
    simp only [OpL] at h
    simp only [LOp.r, evR]
    generalize cc.ev ρ = cv at h hc
    generalize cc.r.ev (ρA E) = ca at hc ⊢
    cases cv <;> first | exact h.elim | skip
    rename_i t
    cases hc
    dsimp only at h
    split at h
    · rename_i x y hx hy
      rw [hx] at ha
      rw [hy] at hb
      cases t with
      | true => exact .same hs ha h
      | false => exact .same hs hb h
    · cases t with
      | true => exact .same hs ha (h.1 rfl)
      | false => exact .same hs hb (h.2 rfl)
  | alloc l => exact newVarL_ok hs (scals_AR c hok) h
  | box x =>
    have hx := Lx_ok hE hok
    simp only [OpL] at h
    simp only [LOp.r, evR]
    split at h
    · rename_i l hl
      obtain ⟨l', q1, q2⟩ := hx.cells hl
      rw [q1]
      exact newVarL_ok hs q2 h
    · exact h.elim
  | build cs ps =>
    simp only [LOp.ok, Bool.and_eq_true] at hok
    simp only [OpL] at h
    simp only [LOp.r, evR]
    split at h
    · rename_i l hl
      obtain ⟨l', q1, q2⟩ := fillL_ok hE hok.2 (scals_AR c hok.1) hl
      rw [q1]
      exact .same hs (.agg q2) h
    · exact h.elim
  | buildSl size len cs ps =>
    simp only [LOp.ok, Bool.and_eq_true] at hok
    simp only [OpL] at h
    simp only [LOp.r, evR]
    split at h
    · rename_i l hl
      obtain ⟨l', q1, q2⟩ := fillL_ok hE hok.2 (scals_AR c hok.1) hl
      rw [q1]
      exact newSlL_ok hs q2 h.1 (fun r e => by cases e; rfl) h.2
    · exact h.elim
  | load1 x =>
    have hx := Lx_ok hE hok
    simp only [OpL] at h
    simp only [LOp.r, evR]
    obtain ⟨o, v, i, w, b, q1, q2, q3, q4⟩ := read1_ok hs hx h
    rw [q1]
    dsimp only
    rw [q2]
    exact .same hs q3 q4
  | loadN n x =>
    have hx := Lx_ok hE hok
    simp only [OpL] at h
    simp only [LOp.r, evR]
    obtain ⟨o, v, i, l', l, q1, q2, q3, q4⟩ := readL_ok hs hx h
    rw [q1]
    dsimp only
    rw [q2]
    exact .same hs (.agg q3) q4
  | store n x y =>
    simp only [LOp.ok, Bool.and_eq_true] at hok
    have hx := Lx_ok hE hok.1
    have hy := Lx_ok hE hok.2
    simp only [OpL] at h
    simp only [LOp.r, evR]
    split at h
    · rename_i l hl
      obtain ⟨l', p1, p2⟩ := hy.cells hl
      obtain ⟨o, v, i, H', c', G', q1, q2, q3, q4, q5, q6⟩ := writeL_ok hs hx p2 h.2
      rw [q1]
      dsimp only
      rw [p1]
      dsimp only
      have hb : Nat.beq l'.length n = true := by rw [← p2.length, h.1]; exact Nat.beq_refl _
      rw [hb]
      dsimp only
      rw [q2]
      exact ⟨c', .tup [], G', q3, q4, q5, .tup .nil, q6⟩
    · exact h.elim
  | nilChk x =>
    have hx := Lx_ok hE hok
    simp only [OpL] at h
    simp only [LOp.r, evR]
    generalize x.ev ρ = v at h hx
    generalize x.r.ev (ρA E) = a at hx ⊢
    split at h
    · have h0 := hx
      cases hx
      exact .same hs h0 h
    · have h0 := hx
      cases hx
      exact .same hs h0 h
    · have h0 := hx
      cases hx
      exact .same hs h0 h
    · exact h.elim
  | bin op g t x y =>
    simp only [LOp.ok, Bool.and_eq_true] at hok
    exact .ret hs (binL_ok (Lx_ok hE hok.1) (Lx_ok hE hok.2) h)
  | un op x => exact .ret hs (unL_ok (Lx_ok hE hok) h)
  | cvInt k x =>
    obtain ⟨k', n, q1, v, q2, q3⟩ := cvL_ok (Lx_ok hE hok) (show cvL k (x.ev ρ) (fun v => K v G) from h)
    simp only [LOp.r, evR]
    rw [q1]
    exact .same hs q2 q3
  | cvStr x =>
    have hx := Lx_ok hE hok
    simp only [OpL] at h
    simp only [LOp.r, evR]
    obtain ⟨l, l', q1, ⟨bs, rfl, q2⟩, q3⟩ := bytL_ok hs hx h
    have hl' := ARs_b q1
    rcases q3 with ⟨q3, q4⟩ | ⟨o, v, i, room, q3, q4⟩
    · rw [q3]
      rw [q4] at hl'
      have : bs = [] := by cases bs with
        | nil => rfl
        | cons _ _ => cases hl'
      subst this
      exact .same hs (.str []) q2
    · rw [q3]
      show OpRes P c G K (match readAt c.H o v i l'.length with
        | some r => match convF.bytesA r with
          | some n => OR.val (.str l'.length n) c.H
          | none => .no
        | none => .no)
      rw [q4]
      dsimp only
      rw [hl', bytesA_map]
      dsimp only
      exact .same hs (.str' (by simp) rfl) q2
  | cvSame x =>
    have hx := Lx_ok hE hok
    simp only [OpL] at h
    simp only [LOp.r, evR]
    generalize x.ev ρ = v at h hx
    generalize x.r.ev (ρA E) = a at hx ⊢
    split at h
    · cases hx; exact .same hs (.str _) h
    · exact h.elim
  | cvBytes x =>
    have hx := Lx_ok hE hok
    simp only [OpL] at h
    simp only [LOp.r, evR]
    generalize x.ev ρ = v at h hx
    generalize x.r.ev (ρA E) = a at hx ⊢
    split at h
    · rename_i l
      cases hx
      exact newSlL_ok hs (unpack_u8 l c) (by simp) (fun r e => by cases e) h
    · exact h.elim
  | mkFunc f a b =>
    simp only [LOp.ok, Bool.and_eq_true] at hok
    exact .same hs (.fn (Lxs_ok hE hok.1) (Lxs_ok hE hok.2)) h
  | mkSl size z l cc =>
    simp only [LOp.ok, Bool.and_eq_true] at hok
    have hl := Lx_ok hE hok.1.2
    have hc := Lx_ok hE hok.2
    simp only [OpL] at h
    simp only [LOp.r, evR]
    generalize l.ev ρ = lv at h hl
    generalize l.r.ev (ρA E) = la at hl ⊢
    generalize cc.ev ρ = cv at h hc
    generalize cc.r.ev (ρA E) = ca at hc ⊢
    split at h
    · rename_i n m
      obtain ⟨rfl, h1, h2, h3, h4⟩ := h
      cases hl; cases hc
      obtain ⟨k, rfl⟩ := Int.eq_ofNat_of_zero_le h1
      have b1 : Nat.ble k k = true := Nat.ble_eq_true_of_le (Nat.le_refl _)
      have b2 : Nat.ble k 1048576 = true := Nat.ble_eq_true_of_le (by omega)
      show OpRes P c G K (match Nat.ble k k with
        | true => match Nat.ble k 1048576 with
          | true => match newObj c.H (repeatL (toAs z) k) with
            | some (o, H') => OR.val (.sl o 0 0 k size (some k)) H'
            | none => .no
          | false => .no
        | false => .no)
      rw [b1, b2]
      exact newSlL_ok hs ((scals_AR c hok.1.1).rep k) (by rw [repL_length, h3]) (fun r e => by cases e; rfl) h4
    · exact h.elim
  | slStr x lo hi =>
    simp only [LOp.ok, Bool.and_eq_true] at hok
    have hx := Lx_ok hE hok.1.1
    simp only [OpL] at h
    simp only [LOp.r, evR]
    generalize x.ev ρ = v at h hx
    generalize x.r.ev (ρA E) = a at hx ⊢
    split at h
    · rename_i l
      cases hx
      obtain ⟨rlo, nlo, q1, q2, q3⟩ := bndL_ok hE hok.1.2 h
      obtain ⟨rhi, nhi, q4, q5, h1, h2, h3⟩ := bndL_ok hE hok.2 q3
      rw [q1, q4]
      dsimp only
      rw [q2, q5]
      have b1 : Nat.ble nlo nhi = true := Nat.ble_eq_true_of_le h1
      have b2 : Nat.ble nhi l.length = true := Nat.ble_eq_true_of_le h2
      rw [b1, b2]
      dsimp only
      refine .same hs (.str' (by simp; omega) ?_) h3
      rw [packL_take, packL_drop]
      rfl
    · exact h.elim
  | slSl size x lo hi =>
    simp only [LOp.ok, Bool.and_eq_true] at hok
    have hx := Lx_ok hE hok.1.1
    simp only [OpL] at h
    simp only [LOp.r, evR]
    have hmx : optR (ρA E) none = some none := rfl
    rw [hmx]
    split at h
    · rename_i hv
      rw [hv] at hx
      generalize x.r.ev (ρA E) = a at hx ⊢
      cases hx
      obtain ⟨rlo, nlo, q1, q2, q3⟩ := bndL_ok hE hok.1.2 h
      obtain ⟨rhi, nhi, q4, q5, h1, h2, h3⟩ := bndL_ok hE hok.2 q3
      rw [q1, q4]
      dsimp only
      rw [q2, q5, h1, h2]
      exact .same hs .nilSl h3
    · rename_i p k hv
      rw [hv] at hx
      generalize x.r.ev (ρA E) = a at hx ⊢
      split at h
      · rename_i l len esz ver st hg
        obtain ⟨hk0, rfl, h⟩ := h
        obtain ⟨rlo, nlo, q1, q2, q3⟩ := bndL_ok hE hok.1.2 h
        obtain ⟨rhi, nhi, q4, q5, h1, h2, h3⟩ := bndL_ok hE hok.2 q3
        rw [q1, q4]
        cases hx with
        | @dy _ _ k' hh _ e hk ha _ =>
          obtain ⟨r0, r1, r2⟩ := hs.obj p _ _ _ hg e
          have hha := ha (by omega)
          rcases r2 with ⟨r2, r3⟩ | ⟨o, v, room, t, clen, l', r2, r3, r4, r5, r6, r7, r8⟩
          · subst r3
            have e1 : nlo = 0 := by omega
            have e2 : nhi = 0 := by omega
            subst e1 e2
            rw [hha, r2]
            dsimp only
            rw [q2, show rhi.getD 0 = 0 from q5]
            exact .same hs (.vw e hk (fun _ => .inl ⟨rfl, .inl rfl⟩) rfl (fun _ _ => trivial)) h3
          · obtain ⟨a2, p1, p2, p3⟩ := sliceSl_any (lo := rlo) (hi := rhi) (o := o) (v := v) (i := 0) (esz := esz) (len := len) (room := room) (by rw [q2, q5]; exact h1) (by rw [q5]; exact h2) (fun r e' => (r7 r e').2)
            rw [hha, r2]
            dsimp only
            rw [p1]
            rw [q2, q5, Nat.zero_add] at p3
            refine .same hs (.vw e hk (fun _ => ?_) p2 (fun _ => sliceSl_tied p1 (fun h0 => by rw [q2]; exact h0) r2)) h3
            rcases p3 with ⟨p3, p4, p5⟩ | ⟨room', p4⟩
            · exact .inl ⟨p3, .inr ⟨p4, p5⟩⟩
            · exact .inr ⟨o, v, len, esz, room, room', r2, p4⟩
      · exact h.elim
    · rename_i p k l0 len hv
      rw [hv] at hx
      generalize x.r.ev (ρA E) = a at hx ⊢
      split at h
      · rename_i l len0 esz ver st hg
        obtain ⟨hk0, rfl, h⟩ := h
        obtain ⟨rlo, nlo, q1, q2, q3⟩ := bndL_ok hE hok.1.2 h
        obtain ⟨rhi, nhi, q4, q5, h1, h2, h3⟩ := bndL_ok hE hok.2 q3
        rw [q1, q4]
        cases hx with
        | @vw _ _ _ _ k' hh _ e hk ha _ hz =>
          have hkv := (hs.obj p _ _ _ hg e).1
          rcases ha (by omega) with ⟨r3, r4⟩ | ⟨o, v, len', esz', room, room', r3, r4, r9⟩
          · subst r3
            have e1 : nlo = 0 := by omega
            have e2 : nhi = 0 := by omega
            subst e1 e2
            rcases r4 with rfl | ⟨rfl, r5⟩
            · dsimp only
              rw [q2, show rhi.getD 0 = 0 from q5]
              exact .same hs (.vw e hk (fun _ => .inl ⟨rfl, .inl rfl⟩) rfl (fun _ _ => trivial)) h3
            · dsimp only
              rw [q2, show rhi.getD 0 = 0 from q5]
              exact .same hs (.vw e hk (fun _ => .inl ⟨rfl, .inr ⟨rfl, r5⟩⟩) rfl (fun _ _ => trivial)) h3
          · subst r3
            obtain ⟨_, w1, w2, w3, _⟩ := dyn_at hs hg e
            subst w2 w3
            obtain ⟨a2, p1, p2, p3⟩ := sliceSl_any (lo := rlo) (hi := rhi) (o := o) (v := v) (i := l0 * esz') (esz := esz') (len := len) (room := room') (by rw [q2, q5]; exact h1) (by rw [q5]; exact h2) r9
            rw [r4]
            dsimp only
            rw [p1]
            rw [q2, q5] at p3
            refine .same hs (.vw e hk (fun _ => ?_) p2 (fun q => sliceSl_tied2 p1 (fun h0 => ⟨by rw [q2]; omega, by omega⟩) (r4 ▸ hz q))) h3
            rcases p3 with ⟨p3, p4, p6⟩ | ⟨room2, p4, p5⟩
            · exact .inl ⟨p3, .inr ⟨p4, by omega⟩⟩
            · exact .inr ⟨o, v, _, esz', room, room2, rfl, by rw [p4, Nat.add_mul], p5⟩
      · exact h.elim
    · rename_i l len esz hv
      rw [hv] at hx
      generalize x.r.ev (ρA E) = a at hx ⊢
      obtain ⟨rfl, h⟩ := h
      obtain ⟨rlo, nlo, q1, q2, q3⟩ := bndL_ok hE hok.1.2 h
      obtain ⟨rhi, nhi, q4, q5, h1, h2, h3⟩ := bndL_ok hE hok.2 q3
      rw [q1, q4]
      have hnil : len = 0 → l = [] → K (.lst [] 0 esz) G := fun e1 e2 => by
        have e3 : nlo = 0 := by omega
        have e4 : nhi = 0 := by omega
        subst e2 e3 e4
        simpa using h3
      cases hx with
      | lst hf hrm hlen hr hl =>
        obtain ⟨a2, p1, p2, p3⟩ := sliceSl_any (lo := rlo) (hi := rhi) (by rw [q2, q5]; exact h1) (by rw [q5]; exact h2) hrm
        dsimp only
        rw [p1]
        rw [q2, q5] at p3
        refine .same hs (.lst' hf hr hl ?_ (p3.imp (fun h => ⟨h.1, h.2.1⟩) id)) h3
        rw [← Nat.add_mul]
        exact Nat.mul_le_mul_right _ (by omega)
      | lstNil =>
        have e3 : nlo = 0 := by omega
        have e4 : nhi = 0 := by omega
        dsimp only
        rw [q2, show rhi.getD 0 = nhi from q5, e3, e4]
        exact .same hs .lstNil (hnil rfl rfl)
      | lstEmp =>
        have e3 : nlo = 0 := by omega
        have e4 : nhi = 0 := by omega
        dsimp only
        rw [q2, show rhi.getD 0 = nhi from q5, e3, e4]
        exact .same hs .lstEmp (hnil rfl rfl)
    · exact h.elim
  | slSl3 size x lo hi mx =>
    simp only [LOp.ok, Bool.and_eq_true] at hok
    have hx := Lx_ok hE hok.1.1.1
    have hmo : optOk (some mx) = true := hok.2
    simp only [OpL] at h
    simp only [LOp.r, evR]
    split at h
    · rename_i p k hv
      rw [hv] at hx
      generalize x.r.ev (ρA E) = a at hx ⊢
      split at h
      · rename_i l len esz ver st hg
        obtain ⟨hk0, rfl, h⟩ := h
        obtain ⟨rlo, nlo, q1, q2, q3⟩ := bndL_ok hE hok.1.1.2 h
        obtain ⟨rhi, nhi, q4, q5, q6⟩ := bndL_ok hE hok.1.2 q3
        obtain ⟨rmx, nmx, q7, q8, h0, h1, h2, h3, h4⟩ := bndL_ok hE hmo q6
        simp only [Option.map_some] at q7
        rw [q1, q4, q7]
        cases hx with
        | @dy _ _ k' hh _ e hk ha _ =>
          obtain ⟨r0, r1, r2⟩ := hs.obj p _ _ _ hg e
          have hha := ha (by omega)
          have hmx : rmx = some nmx := by
            cases rmx with
            | none => unfold optR at q7; dsimp only at q7; split at q7 <;> cases q7
            | some m => simp at q8; rw [q8]
          rcases r2 with ⟨r2, r3⟩ | ⟨o, v, room, t, clen, l', r2, r3, r4, r5, r6, r7, r8⟩
          · omega
          · obtain ⟨a2, p1, p2, p3⟩ := sliceSl_any3 (lo := rlo) (hi := rhi) (o := o) (v := v) (i := 0) (esz := esz) (len := len) (room := room) (m := nmx) (by rw [q2, q5]; exact h1) (by rw [q5]; exact h2) h3 (fun r e' => (r7 r e').2)
            rw [hha, r2, hmx]
            dsimp only
            rw [p1]
            rw [q2, q5, Nat.zero_add] at p3
            refine .same hs (.vw e hk (fun _ => ?_) p2 (fun _ => sliceSl_tied3 p1 (fun h0 => by rw [q2]; exact h0) h3 r2)) h4
            rcases p3 with ⟨p3, p4, p5⟩ | ⟨room', p4⟩
            · exact .inl ⟨p3, .inr ⟨p4, p5⟩⟩
            · exact .inr ⟨o, v, len, esz, room, room', r2, p4⟩
      · exact h.elim
    · rename_i l len esz hv
      rw [hv] at hx
      generalize x.r.ev (ρA E) = a at hx ⊢
      obtain ⟨rfl, h⟩ := h
      obtain ⟨rlo, nlo, q1, q2, q3⟩ := bndL_ok hE hok.1.1.2 h
      obtain ⟨rhi, nhi, q4, q5, q6⟩ := bndL_ok hE hok.1.2 q3
      obtain ⟨rmx, nmx, q7, q8, h0, h1, h2, h3, h4⟩ := bndL_ok hE hmo q6
      simp only [Option.map_some] at q7
      rw [q1, q4, q7]
      have hmx : rmx = some nmx := by
        cases rmx with
        | none => unfold optR at q7; dsimp only at q7; split at q7 <;> cases q7
        | some m => simp at q8; rw [q8]
      cases hx with
      | lst hf hrm hlen hr hl =>
        obtain ⟨a2, p1, p2, p3⟩ := sliceSl_any3 (lo := rlo) (hi := rhi) (m := nmx) (by rw [q2, q5]; exact h1) (by rw [q5]; exact h2) h3 hrm
        rw [hmx]
        dsimp only
        rw [p1]
        rw [q2, q5] at p3
        refine .same hs (.lst' hf hr hl ?_ (p3.imp (fun h => ⟨h.1, h.2.1⟩) id)) h4
        rw [← Nat.add_mul]
        exact Nat.mul_le_mul_right _ (by omega)
      | lstNil => omega
      | lstEmp => omega
    · exact h.elim
  | fieldAddr off x =>
    have hx := Lx_ok hE hok
    simp only [OpL] at h
    simp only [LOp.r, evR]
    generalize x.ev ρ = v at h hx
    generalize x.r.ev (ρA E) = a at hx ⊢
    split at h
    · cases hx with
      | ptr e => exact .same hs (.ptr e) h
    · cases hx with
      | dptr e hk ha => exact .same hs (.dptr e hk (fun q => ⟨by rw [(ha q).1]; rfl, (ha q).2⟩)) h
    · cases hx with
      | cptr hf hr hl =>
        dsimp only
        rw [show ∀ a b c : Nat, Nat.add (a + b) c = a + (b + c) from fun a b c => Nat.add_assoc a b c]
        exact .same hs (.cptr hf hr hl) h
    · exact h.elim
  | field g n off x =>
    have hx := Lx_ok hE hok
    simp only [OpL] at h
    simp only [LOp.r, evR]
    generalize x.ev ρ = v at h hx
    generalize x.r.ev (ρA E) = a at hx ⊢
    split at h
    · rename_i l
      cases hx with
      | agg hl =>
        dsimp only
        cases g with
        | true =>
          obtain ⟨h1, h2⟩ := h
          have hll := hl.length
          rename_i l'
          have b1 : Nat.ble (Nat.add off n) l'.length = true := Nat.ble_eq_true_of_le (show off + n ≤ l'.length by rw [← hll]; exact h1)
          refine .ret hs ?_
          simp only [partA, sub1, b1]
          exact .mk (.agg ((hl.drop off).take n)) h2
        | false =>
          obtain ⟨v, hv, h⟩ := h
          obtain ⟨a, q1, q2⟩ := hl.get hv
          refine .ret hs ?_
          simp only [partA]
          rw [q1]
          exact .mk q2 h
    · exact h.elim
  | ixAddr size x i =>
    simp only [LOp.ok, Bool.and_eq_true] at hok
    have hx := Lx_ok hE hok.1
    have hi := Lx_ok hE hok.2
    simp only [OpL] at h
    simp only [LOp.r, evR]
    generalize i.ev ρ = iv at h hi
    generalize i.r.ev (ρA E) = ia at hi ⊢
    generalize x.ev ρ = v at h hx
    generalize x.r.ev (ρA E) = a at hx ⊢
    split at h
    · rename_i n
      cases hi
      have key : ∀ {o v j len esz : Nat} {room : Option Nat} {m : Nat} {y : LV}, m < len → esz = size → AR c y (.ptr o v (j + m * esz)) → K y G → OpRes P c G K (match AV.sl o v j len esz room, AV.int .i64 (Int.ofNat m) with
          | .sl o v i len esz _, .int _ (.ofNat n) => match Nat.blt n len with
            | true => match Nat.beq esz size with
              | true => .val (.ptr o v (Nat.add i (Nat.mul n esz))) c.H
              | false => .no
            | false => .no
          | _, _ => .no) := by
        intro o v j len esz room m y h1 h2 h3 h4
        subst h2
        have b1 : Nat.blt m len = true := by unfold Nat.blt; exact Nat.ble_eq_true_of_le h1
        dsimp only
        rw [b1, Nat.beq_refl]
        exact .same hs h3 h4
      split at h
      · rename_i p k
        split at h
        · rename_i l len esz ver st hg
          obtain ⟨hk0, rfl, h1, h2, h3⟩ := h
          obtain ⟨m, rfl⟩ := Int.eq_ofNat_of_zero_le h1
          cases hx with
          | @dy _ _ k' hh _ e hk ha _ =>
            obtain ⟨r0, r1, r2⟩ := hs.obj p _ _ _ hg e
            have hha := ha (by omega)
            rcases r2 with ⟨r2, r3⟩ | ⟨o, v, room, t, clen, l', r2, _⟩
            · omega
            · rw [hha, r2]
              refine key (room := room) (y := .dptr p k (m * esz)) (by omega) rfl (.dptr e hk (fun _ => ⟨by rw [Nat.zero_add], len, esz, room, r2⟩)) h3
        · exact h.elim
      · rename_i p k lo len
        split at h
        · rename_i l len0 esz ver st hg
          obtain ⟨hk0, rfl, h1, h2, h3⟩ := h
          obtain ⟨m, rfl⟩ := Int.eq_ofNat_of_zero_le h1
          cases hx with
          | @vw _ _ _ _ k' hh _ e hk ha _ _ =>
            have hkv := (hs.obj p _ _ _ hg e).1
            rcases ha (by omega) with ⟨r3, r4⟩ | ⟨o, v, len', esz', room, room', r3, r4, r9⟩
            · omega
            · have e2 := e
              rw [r3] at e2
              obtain ⟨_, w1, w2, w3, _⟩ := dyn_at hs hg e2
              subst w2 w3
              rw [r4]
              refine key (room := room') (y := .dptr p k ((lo + m) * esz')) (by omega) rfl (.dptr e hk (fun _ => ⟨by rw [Nat.add_mul], len', esz', room, r3⟩)) h3
        · exact h.elim
      · rename_i l len esz
        obtain ⟨rfl, h1, h2, h3⟩ := h
        obtain ⟨m, rfl⟩ := Int.eq_ofNat_of_zero_le h1
        cases hx with
        | @lst _ _ _ _ _ _ rm _ hf hrm hlen hr hl =>
          refine key (room := rm) (y := .cptr l (m * esz)) (by omega) rfl ?_ h3
          rw [← hlen] at hr
          exact .cptr hf hr hl
        | lstNil => omega
        | lstEmp => omega
      · exact h.elim
    · exact h.elim
  | ixStr x i =>
    simp only [LOp.ok, Bool.and_eq_true] at hok
    have hx := Lx_ok hE hok.1
    have hi := Lx_ok hE hok.2
    simp only [OpL] at h
    simp only [LOp.r, evR]
    generalize i.ev ρ = iv at h hi
    generalize i.r.ev (ρA E) = ia at hi ⊢
    generalize x.ev ρ = v at h hx
    generalize x.r.ev (ρA E) = a at hx ⊢
    have key : ∀ {l : List UInt8} {k : IntKind} {m : Nat}, m < l.length → K (.b (l.getD m 0)) G → OpRes P c G K (match AV.str l.length (packL l), AV.int k (Int.ofNat m) with
        | .str len n, .int _ (.ofNat i) => match Nat.blt i len with
          | true => .val (.int .u8 (Int.ofNat (Nat.mod (Nat.div n (Nat.pow 256 i)) 256))) c.H
          | false => .no
        | _, _ => .no) := by
      intro l k m h1 h2
      have b1 : Nat.blt m l.length = true := by unfold Nat.blt; exact Nat.ble_eq_true_of_le h1
      dsimp only
      rw [b1]
      refine .same hs (.b' ?_) h2
      have := packL_get (List.getElem?_eq_getElem h1)
      show Int.ofNat (packL l / 256 ^ m % 256) = _
      rw [this, List.getD_eq_getElem?_getD, List.getElem?_eq_getElem h1]
      rfl
    split at h
    · rename_i l n
      obtain ⟨h1, h2, h3⟩ := h
      obtain ⟨m, rfl⟩ := Int.eq_ofNat_of_zero_le h1
      cases hx; cases hi
      exact key (k := .i64) (by omega) h3
    · rename_i l n
      obtain ⟨h2, h3⟩ := h
      cases hx; cases hi
      exact key (k := .u64) h2 h3
    · rename_i l n
      obtain ⟨h2, h3⟩ := h
      cases hx; cases hi
      exact key (k := .u8) h2 h3
    · exact h.elim
  | extract i x =>
    have hx := Lx_ok hE hok
    simp only [OpL] at h
    simp only [LOp.r, evR]
    generalize x.ev ρ = v at h hx
    generalize x.r.ev (ρA E) = a at hx ⊢
    split at h
    · rename_i l
      cases hx with
      | tup hl =>
        dsimp only
        obtain ⟨v, hv, h⟩ := h
        obtain ⟨a, q1, q2⟩ := hl.get hv
        refine .ret hs ?_
        rw [q1]
        exact .mk q2 h
    · exact h.elim
  | lenStr x =>
    have hx := Lx_ok hE hok
    simp only [OpL] at h
    simp only [LOp.r, evR]
    generalize x.ev ρ = v at h hx
    generalize x.r.ev (ρA E) = a at hx ⊢
    split at h
    · cases hx; exact .same hs (.i _) h
    · exact h.elim
  | lenSl x =>
    obtain ⟨n, q1, q2⟩ := lenL_ok hs (Lx_ok hE hok) (show lenL G (x.ev ρ) (fun n => K (.i n) G) from h)
    simp only [LOp.r, evR]
    rcases q2 with ⟨q2, rfl⟩ | ⟨q2, rfl⟩ | ⟨o, v, i, esz, room, q2⟩
    · rw [q2]; exact .same hs (.i 0) q1
    · rw [q2]; exact .same hs (.i 0) q1
    · rw [q2]; exact .same hs (.i n) q1
  | maxi mx x y =>
    simp only [LOp.ok, Bool.and_eq_true] at hok
    have hx := Lx_ok hE hok.1
    have hy := Lx_ok hE hok.2
    simp only [OpL] at h
    simp only [LOp.r, evR, List.map_cons, List.map_nil]
    generalize y.ev ρ = yv at h hy
    generalize y.r.ev (ρA E) = ya at hy ⊢
    generalize x.ev ρ = v at h hx
    generalize x.r.ev (ρA E) = a at hx ⊢
    split at h
    · cases hx; cases hy
      dsimp only
      rw [maxi_i]
      exact .same hs (.i _) h
    · cases hx; cases hy
      dsimp only
      rw [maxi_u]
      exact .same hs (.u _) h
    · exact h.elim
  | max3 mx x y z =>
    simp only [LOp.ok, Bool.and_eq_true] at hok
    have hx := Lx_ok hE hok.1.1
    have hy := Lx_ok hE hok.1.2
    have hz := Lx_ok hE hok.2
    simp only [OpL] at h
    simp only [LOp.r, evR, List.map_cons, List.map_nil]
    generalize z.ev ρ = zv at h hz
    generalize z.r.ev (ρA E) = za at hz ⊢
    generalize y.ev ρ = yv at h hy
    generalize y.r.ev (ρA E) = ya at hy ⊢
    generalize x.ev ρ = v at h hx
    generalize x.r.ev (ρA E) = a at hx ⊢
    cases v <;> first | exact h.elim | skip
    cases yv <;> first | exact h.elim | skip
    cases zv <;> first | exact h.elim | skip
    cases hx; cases hy; cases hz
    dsimp only
    rw [maxi_i3]
    exact .same hs (.i _) h
  | ixAddrArr len size x i =>
    simp only [LOp.ok, Bool.and_eq_true] at hok
    have hx := Lx_ok hE hok.1
    have hi := Lx_ok hE hok.2
    simp only [OpL] at h
    simp only [LOp.r, evR]
    generalize i.ev ρ = iv at h hi
    generalize i.r.ev (ρA E) = ia at hi ⊢
    generalize x.ev ρ = v at h hx
    generalize x.r.ev (ρA E) = a at hx ⊢
    cases iv <;> first | exact h.elim | skip
    cases hi
    obtain ⟨h1, h2, h⟩ := h
    rename_i n
    obtain ⟨m, rfl⟩ := Int.eq_ofNat_of_zero_le h1
    have b1 : Nat.blt m len = true := by unfold Nat.blt; exact Nat.ble_eq_true_of_le (by omega)
    cases v <;> first | exact h.elim | skip
    · cases hx with
      | ptr e =>
        show OpRes P c G K (match Nat.blt m len with | true => _ | false => _)
        rw [b1]
        refine .same hs ?_ h
        have e0 := AR.ptr (i := 0) e
        rename_i p j o
        show AR c (.ptr p (j + m * size)) (.ptr o 0 (j + m * size))
        exact .ptr e
    · cases hx with
      | dptr e hk ha =>
        show OpRes P c G K (match Nat.blt m len with | true => _ | false => _)
        rw [b1]
        exact .same hs (.dptr e hk (fun q => ⟨by rw [(ha q).1]; rfl, (ha q).2⟩)) h
    · cases hx with
      | cptr hf hr hl =>
        show OpRes P c G K (match Nat.blt m len with | true => _ | false => _)
        rw [b1]
        refine .same hs ?_ h
        rename_i o vv jj ll
        rw [show Nat.add (jj + _) (Nat.mul m size) = jj + (_ + m * size) from Nat.add_assoc _ _ _]
        exact .cptr hf hr hl
  | ixArr g len size x i =>
    simp only [LOp.ok, Bool.and_eq_true] at hok
    have hx := Lx_ok hE hok.1
    have hi := Lx_ok hE hok.2
    simp only [OpL] at h
    simp only [LOp.r, evR]
    generalize i.ev ρ = iv at h hi
    generalize i.r.ev (ρA E) = ia at hi ⊢
    generalize x.ev ρ = v at h hx
    generalize x.r.ev (ρA E) = a at hx ⊢
    cases iv <;> first | exact h.elim | skip
    cases hi
    obtain ⟨h1, h2, h⟩ := h
    rename_i n
    obtain ⟨m, rfl⟩ := Int.eq_ofNat_of_zero_le h1
    have b1 : Nat.blt m len = true := by unfold Nat.blt; exact Nat.ble_eq_true_of_le (by omega)
    cases v <;> first | exact h.elim | skip
    cases hx with
    | agg hl =>
      show OpRes P c G K (match Nat.blt m len with | true => _ | false => _)
      rw [b1]
      simp only [Int.toNat_natCast] at h
      cases g with
      | true =>
        obtain ⟨h1, h2⟩ := h
        have hll := hl.length
        rename_i l'
        have b2 : Nat.ble (Nat.add (Nat.mul m size) size) l'.length = true := Nat.ble_eq_true_of_le (show m * size + size ≤ l'.length by rw [← hll]; exact h1)
        refine .ret hs ?_
        simp only [partA, sub1, b2]
        exact .mk (.agg ((hl.drop _).take _)) h2
      | false =>
        obtain ⟨v, hv, h⟩ := h
        obtain ⟨a, q1, q2⟩ := hl.get hv
        refine .ret hs ?_
        simp only [partA]
        show VRes c _ (_)
        rw [show Nat.mul m size = m * size from rfl, q1]
        exact .mk q2 h
  | lenArr n x =>
    simp only [OpL] at h
    simp only [LOp.r, evR]
    exact .same hs (.i _) h
  | appZ size z s x =>
    simp only [LOp.ok, Bool.and_eq_true] at hok
    have hz := scals_AR c hok.1.1
    have hss := Lx_ok hE hok.1.2
    have hx := Lx_ok hE hok.2
    simp only [OpL] at h
    simp only [LOp.r, evR]
    generalize x.ev ρ = v at h hx
    generalize x.r.ev (ρA E) = a at hx ⊢
    split at h
    · rename_i n
      obtain ⟨h1, h2, h3, h4⟩ := h
      obtain ⟨m, rfl⟩ := Int.eq_ofNat_of_zero_le h1
      cases hx
      have b1 : Nat.ble m 1048576 = true := Nat.ble_eq_true_of_le (by omega)
      show OpRes P c G K (match Nat.ble m 1048576 with
        | true => appendA c.H size (s.r.ev (ρA E)) m (repeatL (toAs z) m)
        | false => .no)
      rw [b1]
      exact appL_ok hs hss (hz.rep m) (by rw [repL_length, h3]) h4
    · exact h.elim
  | appG size s x =>
    simp only [LOp.ok, Bool.and_eq_true] at hok
    have hss := Lx_ok hE hok.1
    have hx := Lx_ok hE hok.2
    simp only [OpL] at h
    simp only [LOp.r, evR]
    obtain ⟨n, l, l', q1, q2, q3, q4, q5⟩ := rowL_ok hs hx h
    rw [q1]
    have b1 : Nat.ble n 1048576 = true := Nat.ble_eq_true_of_le q4
    dsimp only
    rw [b1]
    exact appL_ok hs hss q2 q3 q5
  | copy size d x =>
    simp only [LOp.ok, Bool.and_eq_true] at hok
    have hd := Lx_ok hE hok.1
    have hx := Lx_ok hE hok.2
    simp only [OpL] at h
    simp only [LOp.r, evR]
    obtain ⟨n, l, l', q1, q2, q3, q4⟩ := rowL_ok hs hx h
    rw [q1]
    dsimp only
    have hmin : ∀ a b : Nat, minN a b = min a b := fun a b => by
      unfold minN
      cases hb : Nat.ble a b with
      | true => have := Nat.le_of_ble_eq_true hb; simp only; omega
      | false =>
        have : ¬ a ≤ b := fun q => by rw [Nat.ble_eq_true_of_le q] at hb; cases hb
        simp only; omega
    generalize d.ev ρ = v at q4 hd
    generalize d.r.ev (ρA E) = a at hd ⊢
    split at q4
    · rename_i p k
      split at q4
      · rename_i r len esz ver st hg
        obtain ⟨hk0, rfl, h⟩ := q4
        cases hd with
        | @dy _ _ k' hh _ e hk ha _ =>
          obtain ⟨r0, r1, r2⟩ := hs.obj p _ _ _ hg e
          have hha := ha (by omega)
          rcases r2 with ⟨r2, r3⟩ | ⟨o, v, room, t, clen, r', r2, r3⟩
          · subst r3
            have : r = [] := List.eq_nil_of_length_eq_zero (by simpa using r1)
            subst this
            rw [hha, r2]
            dsimp only
            have hm : min n 0 = 0 := by omega
            rw [hm] at h
            simp only [Nat.zero_mul, List.take_zero] at h
            obtain ⟨p1, p2, _⟩ := hs.upd (k' := k') (x' := hh) (ob' := .dyn (layLV [] 0 []) 0 esz ver (st + 1)) (H' := c.H) hg rfl e (Nat.le_refl _) (fun _ _ _ => rfl) (fun o e' => ⟨.inl e', hs.lt o ⟨p, _, _, _, hg, rfl, e, e'⟩⟩) (Nat.le_refl _) (fun _ => rfl) (fun _ => rfl) (.inl (Nat.lt_succ_self _))
              (fun _ => ⟨r0, by simp [layLV], .inl ⟨r2, rfl⟩⟩)
            exact ⟨⟨c.hd.set p (k', hh), c.Fz, c.H⟩, .i (0 : Nat), _, rfl, p1, p2, .i _, h⟩
          · have hw : writeL G (.dptr p k 0) (l.take (min n len * esz)) (fun G' => K (.i (min n len : Nat)) G') := by
              unfold writeL
              dsimp only
              rw [hg]
              refine ⟨hk0, ?_, h⟩
              rw [r1, List.length_take, Nat.zero_add]
              exact Nat.le_trans (Nat.min_le_left _ _) (Nat.mul_le_mul_right _ (Nat.min_le_right _ _))
            obtain ⟨o2, v2, i2, H', c', G', w1, w2, w3, w4, w5, w6⟩ := writeL_ok hs (a := .ptr o v 0) (.dptr e hk (fun _ => ⟨rfl, len, esz, room, r2⟩)) (q2.take (min n len * esz)) hw
            cases w1
            rw [hha, r2]
            dsimp only
            rw [Nat.beq_refl, hmin]
            dsimp only
            rw [show Nat.mul (min n len) esz = min n len * esz from rfl, w2]
            exact ⟨c', _, G', w3, w4, w5, .i _, w6⟩
      · exact q4.elim
    · rename_i p k lo len
      split at q4
      · rename_i r len0 esz ver st hg
        obtain ⟨hk0, rfl, hle, h⟩ := q4
        cases hd with
        | @vw _ _ _ _ k' hh _ e hk ha _ _ =>
          obtain ⟨r0, r1, r2⟩ := hs.obj p _ _ _ hg e
          have noth : len = 0 → (a = .nilSl ∨ a = .emp ∧ lo ≠ 0) → OpRes P c G K (.val (.int .i64 0) c.H) := by
            intro hl0 _
            subst hl0
            have hm : min n 0 = 0 := by omega
            rw [hm] at h
            simp only [Nat.zero_mul, List.take_zero] at h
            have hlay : layLV r (lo * esz) [] = r := by unfold layLV; simp
            rw [hlay] at h
            obtain ⟨p1, p2, _⟩ := hs.upd (k' := k') (x' := hh) (ob' := .dyn r len0 esz ver (st + 1)) (H' := c.H) hg rfl e (Nat.le_refl _) (fun _ _ _ => rfl) (fun o e' => ⟨.inl e', hs.lt o ⟨p, _, _, _, hg, rfl, e, e'⟩⟩) (Nat.le_refl _) (fun _ => rfl) (fun _ => rfl) (.inl (Nat.lt_succ_self _))
              (fun hle' => (hs.obj p _ _ _ hg e).mono hle' (fun _ _ => rfl))
            exact ⟨⟨c.hd.set p (k', hh), c.Fz, c.H⟩, .i (0 : Nat), _, rfl, p1, p2, .i _, h⟩
          rcases ha (by omega) with ⟨r3, r4⟩ | ⟨o, v, len', esz', room, room', r3, r4, r9⟩
          · have := noth r3 r4
            rcases r4 with rfl | ⟨rfl, _⟩
            · exact this
            · exact this
          · have e2 := e
            rw [r3] at e2
            obtain ⟨_, w1, w2, w3, _⟩ := dyn_at hs hg e2
            subst w2 w3
            have hw : writeL G (.dptr p k (lo * esz')) (l.take (min n len * esz')) (fun G' => K (.i (min n len : Nat)) G') := by
              unfold writeL
              dsimp only
              rw [hg]
              refine ⟨hk0, ?_, h⟩
              rw [List.length_take]
              have h1 : min (min n len * esz') l.length ≤ len * esz' := Nat.le_trans (Nat.min_le_left _ _) (Nat.mul_le_mul_right _ (Nat.min_le_right _ _))
              rw [Nat.add_mul] at hle
              omega
            obtain ⟨o2, v2, i2, H', c', G', u1, u2, u3, u4, u5, u6⟩ := writeL_ok hs (a := .ptr o v (lo * esz')) (.dptr e hk (fun _ => ⟨rfl, len', esz', room, r3⟩)) (q2.take (min n len * esz')) hw
            cases u1
            rw [r4]
            dsimp only
            rw [Nat.beq_refl, hmin]
            dsimp only
            rw [show Nat.mul (min n len) esz' = min n len * esz' from rfl, u2]
            exact ⟨c', _, G', u3, u4, u5, .i _, u6⟩
      · exact q4.elim
    · exact q4.elim
  | clear size z x =>
    simp only [LOp.ok, Bool.and_eq_true] at hok
    have hz := scals_AR c hok.1
    have hx := Lx_ok hE hok.2
    simp only [OpL] at h
    simp only [LOp.r, evR]
    generalize x.ev ρ = v at h hx
    generalize x.r.ev (ρA E) = a at hx ⊢
    split at h
    · rename_i p k lo len
      split at h
      · rename_i r len0 esz ver st hg
        obtain ⟨hk0, rfl, hzl, hle, h⟩ := h
        cases hx with
        | @vw _ _ _ _ k' hh _ e hk ha _ _ =>
          obtain ⟨r0, r1, r2⟩ := hs.obj p _ _ _ hg e
          have noth : len = 0 → OpRes P c G K (.val undefA c.H) := by
            intro hl0
            subst hl0
            have hlay : layLV r (lo * esz) (repL z 0) = r := by unfold layLV; simp [repL]
            rw [hlay] at h
            obtain ⟨p1, p2, _⟩ := hs.upd (k' := k') (x' := hh) (ob' := .dyn r len0 esz ver (st + 1)) (H' := c.H) hg rfl e (Nat.le_refl _) (fun _ _ _ => rfl) (fun o e' => ⟨.inl e', hs.lt o ⟨p, _, _, _, hg, rfl, e, e'⟩⟩) (Nat.le_refl _) (fun _ => rfl) (fun _ => rfl) (.inl (Nat.lt_succ_self _))
              (fun hle' => (hs.obj p _ _ _ hg e).mono hle' (fun _ _ => rfl))
            exact ⟨⟨c.hd.set p (k', hh), c.Fz, c.H⟩, .any, _, rfl, p1, p2, .any _, h⟩
          rcases ha (by omega) with ⟨r3, r4⟩ | ⟨o, v, len', esz', room, room', r3, r4, r9⟩
          · have := noth r3
            rcases r4 with rfl | ⟨rfl, _⟩
            · exact this
            · exact this
          · have e2 := e
            rw [r3] at e2
            obtain ⟨_, w1, w2, w3, _⟩ := dyn_at hs hg e2
            subst w2 w3
            have hw : writeL G (.dptr p k (lo * esz')) (repL z len) (fun G' => K .any G') := by
              unfold writeL
              dsimp only
              rw [hg]
              refine ⟨hk0, ?_, h⟩
              rw [repL_length, hzl, ← Nat.add_mul]
              exact hle
            obtain ⟨o2, v2, i2, H', c', G', u1, u2, u3, u4, u5, u6⟩ := writeL_ok hs (a := .ptr o v (lo * esz')) (.dptr e hk (fun _ => ⟨rfl, len', esz', room, r3⟩)) (hz.rep len) hw
            cases u1
            rw [r4]
            dsimp only
            rw [Nat.beq_refl]
            dsimp only
            rw [u2]
            exact ⟨c', .any, G', u3, u4, u5, .any _, u6⟩
      · exact h.elim
    · exact h.elim
  | mkMap0 => exact pushMapL_ok hs h
  | mkMap1 x =>
    have hx := Lx_ok hE hok
    simp only [OpL] at h
    simp only [LOp.r, evR]
    generalize x.ev ρ = v at h hx
    generalize x.r.ev (ρA E) = a at hx ⊢
    split at h
    · cases hx; exact pushMapL_ok hs h
    · exact h.elim
  | lookup d z ok x i =>
    simp only [LOp.ok, Bool.and_eq_true] at hok
    have hz := cst_AR c hok.1.1
    have hx := Lx_ok hE hok.1.2
    have hi := Lx_ok hE hok.2
    simp only [OpL] at h
    simp only [LOp.r, evR]
    obtain ⟨es, es', q1, q2, q3, _⟩ := mapL_ok hs hx h
    rw [q1]
    dsimp only
    rcases findL_ok hi q2 q3 with ⟨f1, f2⟩ | ⟨v, b, f1, f2, f3⟩
    · rw [f1]
      dsimp only
      cases ok with
      | true => exact .same hs (.tup (.cons hz (.cons (.bool _) .nil))) f2
      | false => exact .same hs hz f2
    · rw [f1]
      dsimp only
      cases ok with
      | true => exact .same hs (.tup (.cons f2 (.cons (.bool _) .nil))) f3
      | false => exact .same hs f2 f3
  | mapUpd d m k v =>
    simp only [LOp.ok, Bool.and_eq_true] at hok
    simp only [OpL] at h
    simp only [LOp.r, evR]
    exact mapUpd_ok hs (Lx_ok hE hok.1.1) (Lx_ok hE hok.1.2) (Lx_ok hE hok.2) h
  | lenMap x =>
    have hx := Lx_ok hE hok
    simp only [OpL] at h
    simp only [LOp.r, evR]
    obtain ⟨es, es', q1, q2, q3, q4⟩ := mapL_ok hs hx h
    have hlen : ∀ {l : List (LV × LV × Nat)} {r : List (AV × AV × Nat)}, MRs c l r → l.length = r.length := by
      intro l r hr
      induction hr with
      | nil => rfl
      | cons _ _ _ ih => simp [ih]
    rcases q4 with ⟨e1, rfl⟩ | ⟨o, ck, e1, e2⟩
    · rw [e1]
      cases q2
      exact .same hs (.i 0) q3
    · rw [e1]
      dsimp only
      rw [e2]
      dsimp only
      rw [← hlen q2]
      exact .same hs (.i _) q3
  | slArr n size x lo hi =>
    simp only [LOp.ok, Bool.and_eq_true] at hok
    have hx := Lx_ok hE hok.1.1
    simp only [OpL] at h
    simp only [LOp.r, evR]
    generalize x.ev ρ = v at h hx
    generalize x.r.ev (ρA E) = a at hx ⊢
    split at h
    · rename_i p i
      split at h
      · rename_i l st hg
        obtain ⟨h0, h⟩ := h
        obtain ⟨rlo, nlo, q1, q2, q3⟩ := bndL_ok hE hok.1.2 h
        obtain ⟨rhi, nhi, q4, q5, q6⟩ := bndL_ok hE hok.2 q3
        rw [q1, q4]
        obtain ⟨h1, h2, h3⟩ := q6
        cases hx with
        | @ptr _ _ o e =>
          obtain ⟨t, l', r2, r3, r4⟩ := cells_at hs hg e
          obtain ⟨a2, p1, p2, p3⟩ := sliceSl_any (lo := rlo) (hi := rhi) (o := o) (v := 0) (i := i) (len := n) (esz := size) (room := some n) (by rw [q2, q5]; exact h1) (by rw [q5]; exact h2) (fun r e => by cases e; exact Nat.le_refl _)
          have b1 : Nat.ble (Nat.add i (Nat.mul n size)) l.length = true := Nat.ble_eq_true_of_le h0
          simp only [optR, r2, b1]
          rw [p1]
          rw [q2, q5] at p3
          obtain ⟨u1, u2⟩ := hs.freeze (st := st + 1) hg rfl (Nat.lt_succ_self _) e (rfl : idOf (.ptr o 0 0) = some o)
          have hsub : i + nlo * size + (nhi - nlo) * size ≤ l.length := by
            rw [Nat.add_assoc, ← Nat.add_mul]
            have : (nlo + (nhi - nlo)) * size ≤ n * size := Nat.mul_le_mul_right _ (by omega)
            omega
          refine ⟨⟨c.hd, fun q => c.Fz q ∨ q = o, c.H⟩, _, _, rfl, u1, u2, ?_, h3⟩
          rcases p3 with ⟨e1, rfl, _⟩ | ⟨room, rfl, hrm⟩
          · rw [e1]; simp only [Nat.zero_mul, List.take_zero]; exact .lstEmp
          · refine .lst (.inr rfl) hrm (by simp; omega) (readAt_of r2 r3 (Nat.le_refl _) hsub) (ARs.mono u2.le ((r4.drop _).take _))
      · exact h.elim
    · exact h.elim
  | callV f args =>
    simp only [LOp.ok, Bool.and_eq_true] at hok
    have hf := Lx_ok hE hok.1
    have ha := Lxs_ok hE hok.2
    simp only [OpL] at h
    simp only [LOp.r, evR]
    generalize f.ev ρ = v at h hf
    generalize f.r.ev (ρA E) = a at hf ⊢
    split at h
    · rename_i g l r
      have hcb := h.1
      cases hf with
      | fn hl hr =>
        rename_i l' r'
        have key : callVal P c.H (.fn (.func g) l' r') ((rxs args).map (·.ev (ρA E))) = .call (.fn g) (l' ++ (rxs args).map (·.ev (ρA E)) ++ r') := by
          have k2 : callFn P (.fn (.func g) l' r') ((rxs args).map (·.ev (ρA E))) = .call (.fn g) (l' ++ (rxs args).map (·.ev (ρA E)) ++ r') := by
            unfold callFn
            dsimp only
            rw [if_pos hcb.1]
          unfold callVal
          split
          · rename_i g' e
            cases e
            rw [hcb.2]
            exact k2
          · exact k2
        rw [key]
        exact ⟨.fn g, _, rfl, (hl.append ha).append hr, h⟩
    · rename_i p r
      cases hf with
      | yield e => exact ⟨.yield p, _, e, ha, h⟩
    · exact h.elim
end res
end Go.Sv
/- The logic's code: what a piece of code comes to. -/
namespace Go.Sv

/-! ### Regions, resolved -/
structure RI where
  d : Option Nat
  g : Option (Nat × Bool)
  o : ROp
noncomputable def dstOk (n : Nat) : Option Nat → Bool
  | none => true
  | some d => Nat.blt d n
noncomputable def resItem (P : Program) (n : Nat) (ops : Array Oper) (o : Oper) : Option RI :=
  match dstOk n o.dst with
  | false => none
  | true => match resOp P o.op with
    | none => none
    | some r => match o.guard with
      | none => some ⟨o.dst, none, r⟩
      | some (j, w) => match (ops[j]?).bind (·.dst) with
        | none => none
        | some t => match Nat.ble t lim with
          | true => some ⟨o.dst, some (t, w), r⟩
          | false => none
noncomputable def resItems (P : Program) (n : Nat) (ops : Array Oper) : List Oper → Option (List RI)
  | [] => some []
  | o :: l => match resItem P n ops o with
    | none => none
    | some r => match resItems P n ops l with
      | none => none
      | some rs => some (r :: rs)

structure LI where
  d : Option Nat
  g : Option (Nat × Bool)
  o : LOp
noncomputable def LI.r (x : LI) : RI := ⟨x.d, x.g, x.o.r⟩
noncomputable def lis : List LI → List RI
  | [] => []
  | x :: l => x.r :: lis l

noncomputable def grd (g : Option (Nat × Bool)) (E : Tr AV) : Bool := match g with
  | none => true
  | some (t, w) => match getP (pathOf t) E with
    | some (.bool b) => match b with
      | true => w
      | false => !w
    | _ => false
noncomputable def runRI (P : Program) (x : RI) (k : CallT) (E : Tr AV) (H : Heap) : OE := match grd x.g E with
  | false => .ok (putE x.d undefA E) H
  | true => match evR P (ρA E) H x.o with
    | .no => .no
    | .val v H' => .ok (putE x.d v E) H'
    | .call t args => match k t args H with
      | .no => .no
      | .ok v H' => .ok (putE x.d v E) H'
theorem compOper_res {P : Program} {n : Nat} {ops : Array Oper} {o : Oper} {x : RI} (h : resItem P n ops o = some x) (k : CallT) (E : Tr AV) (H : Heap) : (compOper P n ops o).run k E H = runRI P x k E H := by
  unfold resItem at h
  cases hd : dstOk n o.dst with
  | false => rw [hd] at h; cases h
  | true =>
    rw [hd] at h
    dsimp only at h
    cases hr : resOp P o.op with
    | none => rw [hr] at h; cases h
    | some r =>
      rw [hr] at h
      dsimp only at h
      have hp : ∃ p, putF n o.dst = some p ∧ ∀ a E, p.run a E = putE o.dst a E := by
        cases hdd : o.dst with
        | none => exact ⟨_, rfl, fun _ _ => rfl⟩
        | some d =>
          rw [hdd] at hd
          have hlt : d < n := Nat.le_of_ble_eq_true hd
          unfold putF
          dsimp only
          rw [if_pos hlt]
          exact ⟨_, rfl, fun _ _ => rfl⟩
      obtain ⟨p, hp1, hp2⟩ := hp
      have hx : x.d = o.dst ∧ x.o = r ∧ (guardF ops o).run E = grd x.g E := by
        cases hg : o.guard with
        | none =>
          rw [hg] at h
          cases h
          refine ⟨rfl, rfl, ?_⟩
          unfold guardF
          rw [hg]
          rfl
        | some jw =>
          obtain ⟨j, w⟩ := jw
          rw [hg] at h
          dsimp only at h
          cases ht : (ops[j]?).bind (·.dst) with
          | none => rw [ht] at h; cases h
          | some t =>
            rw [ht] at h
            dsimp only at h
            cases hl : Nat.ble t lim with
            | false => rw [hl] at h; cases h
            | true =>
              rw [hl] at h
              cases h
              refine ⟨rfl, rfl, ?_⟩
              unfold guardF
              rw [hg]
              dsimp only
              rw [ht]
              dsimp only
              rw [if_pos (Nat.le_of_ble_eq_true hl)]
              rfl
      obtain ⟨h1, h2, h3⟩ := hx
      unfold compOper runRI
      rw [hp1]
      dsimp only
      rw [h3, h1, h2, resOp_ok (EnvR_ρA E) hr H]
      cases grd x.g E with
      | false => simp only [hp2]
      | true =>
        dsimp only
        cases evR P (ρA E) H r with
        | no => rfl
        | val v H' => simp only [hp2]
        | call t args =>
          dsimp only
          cases k t args H with
          | no => rfl
          | ok v H' => simp only [hp2]
theorem runRI_mono {P : Program} {x : RI} {k k' : CallT} (hk : k.le k') {E E' : Tr AV} {H H' : Heap} (h : runRI P x k E H = .ok E' H') : runRI P x k' E H = .ok E' H' := by
  unfold runRI at h ⊢
  cases hg : grd x.g E with
  | false => rw [hg] at h; exact h
  | true =>
    rw [hg] at h
    dsimp only at h ⊢
    cases hr : evR P (ρA E) H x.o with
    | no => rw [hr] at h; cases h
    | val v H2 => rw [hr] at h; exact h
    | call t args =>
      rw [hr] at h
      dsimp only at h ⊢
      cases hc : k t args H with
      | no => rw [hc] at h; cases h
      | ok v H2 => rw [hc] at h; rw [hk _ _ _ _ _ hc]; exact h

/-! ### Items -/
def updL (ρ : LEnv) (d : Option Nat) (v : LV) : LEnv := match d with
  | none => ρ
  | some d => (d, v) :: ρ
/-- A temporary whose value has come out. -/
def setL (t : Nat) (v : LV) : LEnv → LEnv
  | [] => []
  | (d, x) :: l => if t = d then (d, v) :: l else (d, x) :: setL t v l
/-- A guard: a bool, or what has not come to be. -/
def brG (v : LV) (A B Z : Prop) : Prop := match v with
  | .bool t => brL t A B
  | .tup [] => Z
  | _ => False
noncomputable def ItL (P : Program) (x : LI) (ρ : LEnv) (G : LHeap) (K : LEnv → LHeap → Prop) : Prop := match x.g with
  | none => OpL P ρ G x.o fun v G' => K (updL ρ x.d v) G'
  | some (t, true) => brG (lk ρ t) (OpL P (setL t (.bool true) ρ) G x.o fun v G' => K (updL (setL t (.bool true) ρ) x.d v) G') (K (updL (setL t (.bool false) ρ) x.d (.tup [])) G) (K (updL ρ x.d (.tup [])) G)
  | some (t, false) => brG (lk ρ t) (K (updL (setL t (.bool true) ρ) x.d (.tup [])) G) (OpL P (setL t (.bool false) ρ) G x.o fun v G' => K (updL (setL t (.bool false) ρ) x.d v) G') (K (updL ρ x.d (.tup [])) G)
theorem brV_bool {v : LV} {A B : Prop} (h : brV v A B) : ∃ b, v = .bool b ∧ (b = true → A) ∧ (b = false → B) := by
  cases v with
  | bool b => exact ⟨b, rfl, h⟩
  | _ => exact h.elim
theorem brG_cases {v : LV} {A B Z : Prop} (h : brG v A B Z) : (∃ b, v = .bool b ∧ (b = true → A) ∧ (b = false → B)) ∨ v = .tup [] ∧ Z := by
  unfold brG at h
  split at h
  · exact .inl ⟨_, rfl, h⟩
  · exact .inr ⟨rfl, h⟩
  · exact h.elim
theorem ItL_guard {P : Program} {x : LI} {t : Nat} {w : Bool} (hg : x.g = some (t, w)) {ρ : LEnv} {G : LHeap} {K : LEnv → LHeap → Prop} (h : ItL P x ρ G K) :
    (∃ b, lk ρ t = .bool b ∧ (b = w → OpL P (setL t (.bool w) ρ) G x.o fun v G' => K (updL (setL t (.bool w) ρ) x.d v) G') ∧ (b = !w → K (updL (setL t (.bool (!w)) ρ) x.d (.tup [])) G)) ∨ lk ρ t = .tup [] ∧ K (updL ρ x.d (.tup [])) G := by
  unfold ItL at h
  rw [hg] at h
  cases w with
  | true => exact brG_cases h
  | false =>
    rcases brG_cases h with ⟨b, e, h1, h2⟩ | h
    · exact .inl ⟨b, e, h2, h1⟩
    · exact .inr h
noncomputable def OpsL (P : Program) : List LI → LEnv → LHeap → (LEnv → LHeap → Prop) → Prop
  | [], ρ, G, K => K ρ G
  | x :: l, ρ, G, K => ItL P x ρ G fun ρ' G' => OpsL P l ρ' G' K

theorem EnvL.put {c : Cx} {ρ : LEnv} {E : Tr AV} (h : EnvL c ρ E) {v : LV} {a : AV} (ha : AR c v a) (d : Option Nat) : EnvL c (updL ρ d v) (putE d a E) := by
  cases d with
  | none => exact h
  | some d =>
    intro t
    show AR c (lk ((d, v) :: ρ) t) ((getP (pathOf t) (setP a (pathOf d) E)).getD undefA)
    rw [get_set, lk_cons]
    by_cases e : t = d
    · rw [if_pos e, if_pos e]; exact ha
    · rw [if_neg e, if_neg e]; exact h t

theorem lk_setL (t : Nat) (v : LV) : ∀ (ρ : LEnv) (t' : Nat), lk (setL t v ρ) t' = lk ρ t' ∨ (t' = t ∧ lk (setL t v ρ) t' = v)
  | [], _ => .inl rfl
  | (d, x) :: l, t' => by
    simp only [setL]
    by_cases h : t = d
    · rw [if_pos h]
      simp only [lk_cons]
      by_cases h2 : t' = d
      · rw [if_pos h2]; exact .inr ⟨by omega, rfl⟩
      · rw [if_neg h2, if_neg h2]; exact .inl rfl
    · rw [if_neg h]
      simp only [lk_cons]
      by_cases h2 : t' = d
      · rw [if_pos h2, if_pos h2]; exact .inl rfl
      · rw [if_neg h2, if_neg h2]; exact lk_setL t v l t'
theorem EnvL.setL {c : Cx} {ρ : LEnv} {E : Tr AV} (h : EnvL c ρ E) {t : Nat} {v : LV} (ha : AR c v ((getP (pathOf t) E).getD undefA)) : EnvL c (Sv.setL t v ρ) E := by
  intro t'
  rcases lk_setL t v ρ t' with e | ⟨rfl, e⟩
  · rw [e]; exact h t'
  · rw [e]; exact ha
section run
variable {P : Program} {c : Cx} {G : LHeap}
theorem ItL_ok (hs : HSim c G) {ρ : LEnv} {E : Tr AV} (hE : EnvL c ρ E) {x : LI} (hok : x.o.ok = true) {K : LEnv → LHeap → Prop} (h : ItL P x ρ G K) :
    ∃ m E' c' ρ' G', runRI P x.r (callA P (OL P) m) E c.H = .ok E' c'.H ∧ HSim c' G' ∧ Step c G c' G' ∧ EnvL c' ρ' E' ∧ K ρ' G' := by
  have main : ∀ ρ, EnvL c ρ E → (OpL P ρ G x.o fun v G' => K (updL ρ x.d v) G') → grd x.g E = true → ∃ m E' c' ρ' G', runRI P x.r (callA P (OL P) m) E c.H = .ok E' c'.H ∧ HSim c' G' ∧ Step c G c' G' ∧ EnvL c' ρ' E' ∧ K ρ' G' := by
    intro ρ hE h hg
    have hr := OpL_ok hs hE hok h
    unfold OpRes at hr
    unfold runRI
    rw [show x.r.g = x.g from rfl, hg]
    dsimp only [LI.r]
    cases he : evR P (ρA E) c.H x.o.r with
    | no => rw [he] at hr; exact hr.elim
    | val v1 H' =>
      rw [he] at hr
      obtain ⟨c', v, G', rfl, q2, q3, q4, q5⟩ := hr
      exact ⟨0, _, c', _, G', rfl, q2, q3, (hE.mono q3.le).put q4 x.d, q5⟩
    | call t1 args1 =>
      rw [he] at hr
      obtain ⟨t, args, q1, q2, _, q3⟩ := hr
      obtain ⟨m, v1, H', r1, c', v, G', rfl, r3, r4, r5, r6⟩ := q3 c t1 args1 hs q1 q2
      refine ⟨m, _, c', _, G', ?_, r3, r4, (hE.mono r4.le).put r5 x.d, r6⟩
      dsimp only
      rw [r1]
  cases hgx : x.g with
  | none =>
    unfold ItL at h
    rw [hgx] at h
    exact main ρ hE h (by rw [hgx]; rfl)
  | some tw =>
    obtain ⟨t, w⟩ := tw
    have hg := hgx
    rcases ItL_guard hgx h with ⟨b, hb, h⟩ | ⟨hb, h⟩
    rotate_left
    · have ht := hE t
      rw [hb] at ht
      have hgf : grd x.g E = false := by
        rw [hg]
        unfold grd
        dsimp only
        cases hq : getP (pathOf t) E with
        | none => rfl
        | some a => rw [hq] at ht; cases ht; rfl
      refine ⟨0, _, c, _, G, ?_, hs, .refl c G, hE.put (.tup .nil) x.d, h⟩
      unfold runRI
      rw [show x.r.g = x.g from rfl, hgf]
      rfl
    · have ht := hE t
      rw [hb] at ht
      have hget : getP (pathOf t) E = some (.bool b) := by
        cases hq : getP (pathOf t) E with
        | none => rw [hq] at ht; cases ht
        | some a => rw [hq] at ht; cases ht; rfl
      by_cases e : b = w
      · refine main _ (hE.setL (by rw [hget, ← e]; exact .bool b)) (h.1 e) ?_
        rw [hg]
        unfold grd
        dsimp only
        rw [hget, e]
        cases w <;> rfl
      · have e' : b = !w := by cases b <;> cases w <;> simp_all
        refine ⟨0, _, c, _, G, ?_, hs, .refl c G, (hE.setL (by rw [hget, ← e']; exact .bool b)).put (.tup .nil) x.d, h.2 e'⟩
        have hgf : grd x.g E = false := by
          rw [hg]
          unfold grd
          dsimp only
          rw [hget, e']
          cases w <;> rfl
        unfold runRI
        rw [show x.r.g = x.g from rfl, hgf]
        rfl

theorem OpsL_ok {n : Nat} {ops : Array Oper} : ∀ {l : List LI} {os : List Oper} {c : Cx} {G : LHeap} {ρ : LEnv} {E : Tr AV} {K : LEnv → LHeap → Prop}, resItems P n ops os = some (lis l) → l.all (·.o.ok) = true → HSim c G → EnvL c ρ E → OpsL P l ρ G K →
    ∃ m E' c' ρ' G', (compOps P n ops os).run (callA P (OL P) m) E c.H = .ok E' c'.H ∧ HSim c' G' ∧ Step c G c' G' ∧ EnvL c' ρ' E' ∧ K ρ' G'
  | [], os, c, G, ρ, E, K, hr, _, hs, hE, h => by
    cases os with
    | nil => exact ⟨0, E, c, ρ, G, rfl, hs, .refl c G, hE, h⟩
    | cons o os =>
      simp only [resItems] at hr
      split at hr
      · cases hr
      · split at hr <;> cases hr
  | x :: l, os, c, G, ρ, E, K, hr, hok, hs, hE, h => by
    cases os with
    | nil => cases hr
    | cons o os =>
      simp only [resItems] at hr
      split at hr
      · cases hr
      · rename_i r hr1
        split at hr
        · cases hr
        · rename_i rs hr2
          simp only [lis, Option.some.injEq, List.cons.injEq] at hr
          obtain ⟨rfl, rfl⟩ := hr
          simp only [List.all_cons, Bool.and_eq_true] at hok
          obtain ⟨m1, E1, c1, ρ1, G1, p1, p2, p3, p4, p5⟩ := ItL_ok hs hE hok.1 (show ItL P x ρ G fun ρ' G' => OpsL P l ρ' G' K from h)
          obtain ⟨m2, E2, c2, ρ2, G2, q1, q2, q3, q4, q5⟩ := OpsL_ok hr2 hok.2 p2 p4 p5
          refine ⟨max m1 m2, E2, c2, ρ2, G2, ?_, q2, .trans hs p2 p3 q3, q4, q5⟩
          simp only [compOps]
          rw [compOper_res hr1, runRI_mono (callA_mono (Nat.le_max_left m1 m2)) p1]
          dsimp only
          exact compOps_mono (callA_mono (Nat.le_max_right m1 m2)) q1
end run
end Go.Sv
/- The logic's code: sequences, choices, loops, functions. -/
namespace Go.Sv

inductive RC where
  | skip
  | ops (l : List RI)
  | draw (l : List (RI × List (RI × Bool)))
  | seq (a b : RC)
  | cond (c : Ox) (a b : RC)
  | block (id : Nat) (c : RC)
  | loop (c : RC)
  | rangeF (g : Ox) (ps : List Nat) (a b : RC)
  | exit (id : Nat)
  | scope (c : RC)
  | label
  | ret
  | stuck
inductive LC where
  | skip
  | ops (l : List LI)
  | draw (l : List (LI × List (LI × Bool)))
  | seq (a b : LC)
  | cond (c : Lx) (a b : LC)
  | block (id : Nat) (c : LC)
  | loop (c : LC)
  | rangeF (g : Lx) (ps : List Nat) (a b : LC)
  | exit (id : Nat)
  | scope (c : LC)
  | label
  | ret
  | stuck

/-! ### Regions that draw their order -/
noncomputable def memN (t : Nat) : List Nat → Bool
  | [] => false
  | a :: l => match Nat.beq t a with
    | true => true
    | false => memN t l
/-- Does what is written here leave alone what an operation looks at and has given? -/
noncomputable def offOf (ops : Array Oper) (d : Option Nat) (x : DOp) : Bool := match d with
  | none => true
  | some d => match memN d (looks ops x.o) with
    | true => false
    | false => match x.o.dst with
      | none => true
      | some e => !(Nat.beq d e)
noncomputable def isAl (x : DOp) : Bool := match x.c with
  | .al => true
  | _ => false
noncomputable def resCks (P : Program) (n : Nat) (ops : Array Oper) : List DOp → Option (List (RI × Bool))
  | [] => some []
  | x :: l => match resItem P n ops x.o with
    | none => none
    | some r => match resCks P n ops l with
      | none => none
      | some rs => some ((r, isAl x) :: rs)
noncomputable def eqCls : Cls → Cls → Bool
  | .quiet, .quiet => true
  | .rd, .rd => true
  | .al, .al => true
  | .ch, .ch => true
  | _, _ => false
/-- An operation whose value may be looked at anew: it has a place of its own for it. -/
noncomputable def ownDst (ops : Array Oper) (x : DOp) : Bool := match x.o.dst with
  | none => false
  | some d => !(memN d (looks ops x.o))
noncomputable def resGo (P : Program) (n : Nat) (ops : Array Oper) : List DOp → List DOp → Option (List (RI × List (RI × Bool)))
  | [], _ => some []
  | x :: l, pend => match allB (offOf ops x.o.dst) pend && eqCls x.c (cls P x.o.op) with
    | false => none
    | true => match resItem P n ops x.o with
      | none => none
      | some r => match x.c with
        | .quiet => match resGo P n ops l pend with
          | none => none
          | some rs => some ((r, []) :: rs)
        | .rd => match ownDst ops x with
          | false => none
          | true => match resGo P n ops l (x :: pend) with
            | none => none
            | some rs => some ((r, []) :: rs)
        | .al => match ownDst ops x with
          | false => none
          | true => match resCks P n ops pend with
            | none => none
            | some cs => match resGo P n ops l (x :: pend) with
              | none => none
              | some rs => some ((r, cs) :: rs)
        | .ch => match resCks P n ops (filterB (fun y => !(Nat.testBit x.m y.i)) pend) with
          | none => none
          | some cs => match resGo P n ops l (filterB (fun y => !(Nat.testBit x.m y.i)) pend) with
            | none => none
            | some rs => some ((r, cs) :: rs)
noncomputable def resDraw (P : Program) (n : Nat) (ops : Array Oper) : Option (List (RI × List (RI × Bool))) :=
  let L := dops P ops ops.toList [] 0
  let chain := filterB isCh L
  let ord := ordOf L chain
  match drawOk ops.size L ord with
  | true => resGo P n ops ord []
  | false => none

noncomputable def resC (P : Program) (n : Nat) : Code → Option RC
  | .skip => some .skip
  | .region _ ops draw => match draw with
    | true => match resDraw P n ops with
      | none => some .stuck
      | some l => some (.draw l)
    | false => match resItems P n ops ops.toList with
      | none => some .stuck
      | some l => some (.ops l)
  | .seq a b => match resC P n a with
    | none => none
    | some a => match resC P n b with
      | none => none
      | some b => some (.seq a b)
  | .cond c a b => match resO c with
    | none => none
    | some c => match resC P n a with
      | none => none
      | some a => match resC P n b with
        | none => none
        | some b => some (.cond c a b)
  | .block id c => match resC P n c with
    | none => none
    | some c => some (.block id c)
  | .loop c => match resC P n c with
    | none => none
    | some c => some (.loop c)
  | .rangeFunc g ps a b => match resO g with
    | none => none
    | some g => match resC P n a with
      | none => none
      | some a => match resC P n b with
        | none => none
        | some b => some (.rangeF g ps.toList a b)
  | .exit id => some (.exit id)
  | .scope c => match resC P n c with
    | none => none
    | some c => some (.scope c)
  | .label _ => some .label
  | .ret => some .ret
  | _ => some .stuck

noncomputable def rck : List (LI × Bool) → List (RI × Bool)
  | [] => []
  | (x, b) :: l => (x.r, b) :: rck l
noncomputable def rdr : List (LI × List (LI × Bool)) → List (RI × List (RI × Bool))
  | [] => []
  | (x, c) :: l => (x.r, rck c) :: rdr l
noncomputable def LC.r : LC → RC
  | .skip => .skip
  | .ops l => .ops (lis l)
  | .draw l => .draw (rdr l)
  | .seq a b => .seq a.r b.r
  | .cond c a b => .cond c.r a.r b.r
  | .block id c => .block id c.r
  | .loop c => .loop c.r
  | .rangeF g ps a b => .rangeF g.r ps a.r b.r
  | .exit id => .exit id
  | .scope c => .scope c.r
  | .label => .label
  | .ret => .ret
  | .stuck => .stuck
def LC.ok : LC → Bool
  | .ops l => l.all (·.o.ok)
  | .draw l => l.all fun x => x.1.o.ok && x.2.all (·.1.o.ok)
  | .seq a b => a.ok && b.ok
  | .cond c a b => c.ok && a.ok && b.ok
  | .block _ c => c.ok
  | .loop c => c.ok
  | .rangeF g _ a b => g.ok && a.ok && b.ok
  | .scope c => c.ok
  | _ => true

/-! ### What code comes to -/
abbrev Post := Ex → LEnv → List Nat → LHeap → Prop
inductive DRs (c : Cx) : List Nat → List Nat → Prop where
  | nil : DRs c [] []
  | cons {p o : Nat} {l r : List Nat} (h : c.hd[p]? = some (0, .ptr o 0 0)) (hs : DRs c l r) : DRs c (p :: l) (o :: r)
theorem DRs.mono {c c' : Cx} (h : CxLe c c') : ∀ {l r : List Nat}, DRs c l r → DRs c' l r
  | _, _, .nil => .nil
  | _, _, .cons e es => .cons (h.fix e rfl) (DRs.mono h es)
def ROr (c : Cx) : Option Nat → Option Nat → Prop
  | none, none => True
  | some p, some o => c.hd[p]? = some (0, .ptr o 0 0)
  | _, _ => False
theorem ROr.mono {c c' : Cx} (h : CxLe c c') {a b : Option Nat} (k : ROr c a b) : ROr c' a b := by
  cases a <;> cases b <;> first | exact k | exact h.fix k rfl

def W (P : Program) (f n : Nat) (s : LC) (ro : Option Nat) (ρ : LEnv) (D : List Nat) (G : LHeap) (Q : Post) : Prop :=
  ∀ (code : Code) (c : Cx) (E : Tr AV) (D1 : List Nat) (ro1 : Option Nat), resC P n code = some s.r → s.ok = true → HSim c G → EnvL c ρ E → DRs c D D1 → ROr c ro ro1 →
    ∃ m x E' D1' c' ρ' D' G', (compCode P f n code).run (callA P (OL P) m) m ro1 E D1 c.H = .ok x E' D1' c'.H ∧ HSim c' G' ∧ Step c G c' G' ∧ EnvL c' ρ' E' ∧ DRs c' D' D1' ∧ Q x ρ' D' G'

section rules
variable {P : Program} {f n : Nat} {ro : Option Nat} {ρ : LEnv} {D : List Nat} {G : LHeap} {Q : Post}

theorem W.post {s : LC} {Q' : Post} (h : W P f n s ro ρ D G Q) (hq : ∀ x ρ D G, Q x ρ D G → Q' x ρ D G) : W P f n s ro ρ D G Q' := by
  intro code c E D1 ro1 h1 h2 h3 h4 h5 h6
  obtain ⟨m, x, E', D1', c', ρ', D', G', q1, q2, q3, q4, q5, q6⟩ := h code c E D1 ro1 h1 h2 h3 h4 h5 h6
  exact ⟨m, x, E', D1', c', ρ', D', G', q1, q2, q3, q4, q5, hq _ _ _ _ q6⟩
/-- What temporaries held may be forgotten. -/
theorem W.env {s : LC} {ρ' : LEnv} (hρ : ∀ t, lk ρ' t = .any ∨ lk ρ' t = lk ρ t) (h : W P f n s ro ρ' D G Q) : W P f n s ro ρ D G Q := by
  intro code c E D1 ro1 h1 h2 h3 h4 h5 h6
  refine h code c E D1 ro1 h1 h2 h3 (fun t => ?_) h5 h6
  rcases hρ t with e | e
  · rw [e]; exact .any _
  · rw [e]; exact h4 t
theorem inv_skip {code : Code} (h : resC P n code = some .skip) : code = .skip := by
  cases code <;> simp only [resC] at h <;> first | rfl | (repeat' split at h) <;> cases h
theorem inv_ops {code : Code} {l : List RI} (h : resC P n code = some (.ops l)) : ∃ id ops, code = .region id ops false ∧ resItems P n ops ops.toList = some l := by
  cases code <;> simp only [resC] at h <;> (repeat' split at h) <;> cases h
  exact ⟨_, _, rfl, ‹_›⟩
theorem inv_draw {code : Code} {l : List (RI × List (RI × Bool))} (h : resC P n code = some (.draw l)) : ∃ id ops, code = .region id ops true ∧ resDraw P n ops = some l := by
  cases code <;> simp only [resC] at h <;> (repeat' split at h) <;> cases h
  exact ⟨_, _, rfl, ‹_›⟩
theorem inv_seq {code : Code} {a b : RC} (h : resC P n code = some (.seq a b)) : ∃ ca cb, code = .seq ca cb ∧ resC P n ca = some a ∧ resC P n cb = some b := by
  cases code <;> simp only [resC] at h <;> (repeat' split at h) <;> cases h
  exact ⟨_, _, rfl, ‹_›, ‹_›⟩
theorem inv_cond {code : Code} {x : Ox} {a b : RC} (h : resC P n code = some (.cond x a b)) : ∃ cx ca cb, code = .cond cx ca cb ∧ resO cx = some x ∧ resC P n ca = some a ∧ resC P n cb = some b := by
  cases code <;> simp only [resC] at h <;> (repeat' split at h) <;> cases h
  exact ⟨_, _, _, rfl, ‹_›, ‹_›, ‹_›⟩
theorem inv_block {code : Code} {id : Nat} {a : RC} (h : resC P n code = some (.block id a)) : ∃ ca, code = .block id ca ∧ resC P n ca = some a := by
  cases code <;> simp only [resC] at h <;> (repeat' split at h) <;> cases h
  exact ⟨_, rfl, ‹_›⟩
theorem inv_loop {code : Code} {a : RC} (h : resC P n code = some (.loop a)) : ∃ ca, code = .loop ca ∧ resC P n ca = some a := by
  cases code <;> simp only [resC] at h <;> (repeat' split at h) <;> cases h
  exact ⟨_, rfl, ‹_›⟩
theorem inv_range {code : Code} {g : Ox} {ps : List Nat} {a b : RC} (h : resC P n code = some (.rangeF g ps a b)) : ∃ (cg : Operand) (cps : Array Tmp) (ca cb : Code), code = .rangeFunc cg cps ca cb ∧ cps.toList = ps ∧ resO cg = some g ∧ resC P n ca = some a ∧ resC P n cb = some b := by
  cases code <;> simp only [resC] at h <;> (repeat' split at h) <;> cases h
  exact ⟨_, _, _, _, rfl, rfl, ‹_›, ‹_›, ‹_›⟩
theorem inv_exit {code : Code} {id : Nat} (h : resC P n code = some (.exit id)) : code = .exit id := by
  cases code <;> simp only [resC] at h <;> (repeat' split at h) <;> cases h
  rfl
theorem inv_scope {code : Code} {a : RC} (h : resC P n code = some (.scope a)) : ∃ ca, code = .scope ca ∧ resC P n ca = some a := by
  cases code <;> simp only [resC] at h <;> (repeat' split at h) <;> cases h
  exact ⟨_, rfl, ‹_›⟩
theorem inv_label {code : Code} (h : resC P n code = some .label) : ∃ s, code = .label s := by
  cases code <;> simp only [resC] at h <;> (repeat' split at h) <;> cases h
  exact ⟨_, rfl⟩
theorem inv_ret {code : Code} (h : resC P n code = some .ret) : code = .ret := by
  cases code <;> simp only [resC] at h <;> first | rfl | (repeat' split at h) <;> cases h

theorem W_skip (h : Q .normal ρ D G) : W P f n .skip ro ρ D G Q := by
  intro code c E D1 ro1 h1 h2 h3 h4 h5 h6
  obtain rfl := inv_skip h1
  exact ⟨0, .normal, E, D1, c, ρ, D, G, rfl, h3, .refl c G, h4, h5, h⟩
theorem W_label (h : Q .normal ρ D G) : W P f n .label ro ρ D G Q := by
  intro code c E D1 ro1 h1 h2 h3 h4 h5 h6
  obtain ⟨s, rfl⟩ := inv_label h1
  exact ⟨0, .normal, E, D1, c, ρ, D, G, rfl, h3, .refl c G, h4, h5, h⟩
theorem W_exit {id : Nat} (h : Q (.exit id) ρ D G) : W P f n (.exit id) ro ρ D G Q := by
  intro code c E D1 ro1 h1 h2 h3 h4 h5 h6
  obtain rfl := inv_exit h1
  exact ⟨0, .exit id, E, D1, c, ρ, D, G, rfl, h3, .refl c G, h4, h5, h⟩
theorem W_ret (h : Q .ret ρ D G) : W P f n .ret ro ρ D G Q := by
  intro code c E D1 ro1 h1 h2 h3 h4 h5 h6
  obtain rfl := inv_ret h1
  exact ⟨0, .ret, E, D1, c, ρ, D, G, rfl, h3, .refl c G, h4, h5, h⟩
theorem W_scope {s : LC} (h : W P f n s ro ρ D G Q) : W P f n (.scope s) ro ρ D G Q := by
  intro code c E D1 ro1 h1 h2 h3 h4 h5 h6
  obtain ⟨ca, rfl, hca⟩ := inv_scope h1
  exact h ca c E D1 ro1 hca h2 h3 h4 h5 h6
theorem W_ops {l : List LI} (h : OpsL P l ρ G fun ρ' G' => Q .normal ρ' D G') : W P f n (.ops l) ro ρ D G Q := by
  intro code c E D1 ro1 h1 h2 h3 h4 h5 h6
  obtain ⟨id, ops, rfl, hr⟩ := inv_ops h1
  obtain ⟨m, E', c', ρ', G', q1, q2, q3, q4, q5⟩ := OpsL_ok hr h2 h3 h4 h
  refine ⟨m, .normal, E', D1, c', ρ', D, G', ?_, q2, q3, q4, h5.mono q3.le, q5⟩
  simp only [compCode]
  rw [q1]
theorem W_seq {a b : LC} (h : W P f n a ro ρ D G fun x ρ' D' G' => match x with
    | .normal => W P f n b ro ρ' D' G' Q
    | x => Q x ρ' D' G') : W P f n (.seq a b) ro ρ D G Q := by
  intro code c E D1 ro1 h1 h2 h3 h4 h5 h6
  obtain ⟨ca, cb, rfl, ha, hb⟩ := inv_seq h1
  simp only [LC.ok, Bool.and_eq_true] at h2
  obtain ⟨m, x, E', D1', c', ρ', D', G', q1, q2, q3, q4, q5, q6⟩ := h ca c E D1 ro1 ha h2.1 h3 h4 h5 h6
  cases x with
  | normal =>
    obtain ⟨m2, x, E2, D2, c2, ρ2, D2', G2, r1, r2, r3, r4, r5, r6⟩ := q6 cb c' E' D1' ro1 hb h2.2 q2 q4 q5 (h6.mono q3.le)
    refine ⟨max m m2, x, E2, D2, c2, ρ2, D2', G2, ?_, r2, .trans h3 q2 q3 r3, r4, r5, r6⟩
    simp only [compCode]
    rw [compCode_mono (callA_mono (Nat.le_max_left m m2)) (Nat.le_max_left m m2) _ q1]
    exact compCode_mono (callA_mono (Nat.le_max_right m m2)) (Nat.le_max_right m m2) _ r1
  | exit id =>
    refine ⟨m, .exit id, E', D1', c', ρ', D', G', ?_, q2, q3, q4, q5, q6⟩
    simp only [compCode]
    rw [q1]
  | ret =>
    refine ⟨m, .ret, E', D1', c', ρ', D', G', ?_, q2, q3, q4, q5, q6⟩
    simp only [compCode]
    rw [q1]
theorem W_cond {x : Lx} {a b : LC} {t : Bool} (hx : x.ev ρ = .bool t) (ha : t = true → W P f n a ro ρ D G Q) (hb : t = false → W P f n b ro ρ D G Q) : W P f n (.cond x a b) ro ρ D G Q := by
  intro code c E D1 ro1 h1 h2 h3 h4 h5 h6
  obtain ⟨cx, ca, cb, rfl, hcx, hca, hcb⟩ := inv_cond h1
  simp only [LC.ok, Bool.and_eq_true] at h2
  have hv := Lx_ok h4 h2.1.1
  have hE := resO_ok hcx (EnvR_ρA E)
  have hvb : x.r.ev (ρA E) = .bool t := by
    rw [hx] at hv
    generalize x.r.ev (ρA E) = w at hv
    cases hv; rfl
  rw [hvb] at hE
  cases t with
  | true =>
    obtain ⟨m, x, E', D1', c', ρ', D', G', q1, q⟩ := ha rfl ca c E D1 ro1 hca h2.1.2 h3 h4 h5 h6
    refine ⟨m, x, E', D1', c', ρ', D', G', ?_, q⟩
    simp only [compCode]
    rw [hE]
    exact q1
  | false =>
    obtain ⟨m, x, E', D1', c', ρ', D', G', q1, q⟩ := hb rfl cb c E D1 ro1 hcb h2.2 h3 h4 h5 h6
    refine ⟨m, x, E', D1', c', ρ', D', G', ?_, q⟩
    simp only [compCode]
    rw [hE]
    exact q1
theorem W_block {id : Nat} {s : LC} (h : W P f n s ro ρ D G fun x ρ' D' G' => match x with
    | .exit i => if i = id then Q .normal ρ' D' G' else Q (.exit i) ρ' D' G'
    | x => Q x ρ' D' G') : W P f n (.block id s) ro ρ D G Q := by
  intro code c E D1 ro1 h1 h2 h3 h4 h5 h6
  obtain ⟨ca, rfl, hca⟩ := inv_block h1
  obtain ⟨m, x, E', D1', c', ρ', D', G', q1, q2, q3, q4, q5, q6⟩ := h ca c E D1 ro1 hca h2 h3 h4 h5 h6
  cases x with
  | normal =>
    refine ⟨m, .normal, E', D1', c', ρ', D', G', ?_, q2, q3, q4, q5, q6⟩
    simp only [compCode]
    rw [q1]
  | exit i =>
    dsimp only at q6
    by_cases e : i = id
    · rw [if_pos e] at q6
      refine ⟨m, .normal, E', D1', c', ρ', D', G', ?_, q2, q3, q4, q5, q6⟩
      simp only [compCode]
      rw [q1, e]
      dsimp only
      rw [Nat.beq_refl]
    · rw [if_neg e] at q6
      refine ⟨m, .exit i, E', D1', c', ρ', D', G', ?_, q2, q3, q4, q5, q6⟩
      simp only [compCode]
      rw [q1]
      dsimp only
      cases hb : Nat.beq i id with
      | true => exact absurd (Nat.eq_of_beq_eq_true hb) e
      | false => rfl
  | ret =>
    refine ⟨m, .ret, E', D1', c', ρ', D', G', ?_, q2, q3, q4, q5, q6⟩
    simp only [compCode]
    rw [q1]
/-- A loop: a measure falls in each round. -/
theorem W_loop {s : LC} (I : LEnv → List Nat → LHeap → Nat → Prop) {N : Nat} (h0 : I ρ D G N)
    (h : ∀ N ρ D G, I ρ D G N → W P f n s ro ρ D G fun x ρ' D' G' => match x with
      | .normal => ∃ N', N' < N ∧ I ρ' D' G' N'
      | x => Q x ρ' D' G') : W P f n (.loop s) ro ρ D G Q := by
  intro code c E D1 ro1 h1 h2 h3 h4 h5 h6
  obtain ⟨ca, rfl, hca⟩ := inv_loop h1
  have key : ∀ N, ∀ (c : Cx) (E : Tr AV) (D1 : List Nat) (ρ : LEnv) (D : List Nat) (G : LHeap), I ρ D G N → HSim c G → EnvL c ρ E → DRs c D D1 → ROr c ro ro1 →
      ∃ m m' x E' D1' c' ρ' D' G', loopA ((compCode P f n ca).run (callA P (OL P) m) m ro1) m' E D1 c.H = .ok x E' D1' c'.H ∧ HSim c' G' ∧ Step c G c' G' ∧ EnvL c' ρ' E' ∧ DRs c' D' D1' ∧ Q x ρ' D' G' := by
    intro N
    induction N using Nat.strongRecOn with
    | _ N ih =>
      intro c E D1 ρ D G hI h3 h4 h5 h6
      obtain ⟨m, x, E', D1', c', ρ', D', G', q1, q2, q3, q4, q5, q6⟩ := h N ρ D G hI ca c E D1 ro1 hca h2 h3 h4 h5 h6
      cases x with
      | normal =>
        obtain ⟨N', hN, hI'⟩ := q6
        obtain ⟨m2, m2', x, E2, D2, c2, ρ2, D2', G2, r1, r2, r3, r4, r5, r6⟩ := ih N' hN c' E' D1' ρ' D' G' hI' q2 q4 q5 (h6.mono q3.le)
        refine ⟨max m m2, m2' + 1, x, E2, D2, c2, ρ2, D2', G2, ?_, r2, .trans h3 q2 q3 r3, r4, r5, r6⟩
        simp only [loopA]
        rw [compCode_mono (callA_mono (Nat.le_max_left m m2)) (Nat.le_max_left m m2) _ q1]
        exact loopA_mono (fun _ _ _ _ _ _ _ e => compCode_mono (callA_mono (Nat.le_max_right m m2)) (Nat.le_max_right m m2) _ e) (Nat.le_refl _) r1
      | exit id =>
        refine ⟨m, 1, .exit id, E', D1', c', ρ', D', G', ?_, q2, q3, q4, q5, q6⟩
        simp only [loopA]
        rw [q1]
      | ret =>
        refine ⟨m, 1, .ret, E', D1', c', ρ', D', G', ?_, q2, q3, q4, q5, q6⟩
        simp only [loopA]
        rw [q1]
  obtain ⟨m, m', x, E', D1', c', ρ', D', G', q1, q⟩ := key N c E D1 ρ D G h0 h3 h4 h5 h6
  refine ⟨max m m', x, E', D1', c', ρ', D', G', ?_, q⟩
  simp only [compCode]
  exact loopA_mono (fun _ _ _ _ _ _ _ e => compCode_mono (callA_mono (Nat.le_max_left m m')) (Nat.le_max_left m m') _ e) (Nat.le_max_right m m') q1
end rules

/-! ### Functions -/
inductive RRes where
  | tmp (t : Nat)
  | cell1 (t : Nat)
  | cellN (t n : Nat)
noncomputable def resR (P : Program) : ResultVar → Option RRes
  | .tmp t => match Nat.ble t lim with
    | true => some (.tmp t)
    | false => none
  | .cell a t => match Nat.ble a lim with
    | true => match aggT P t, sizeT P t with
      | some true, some n => some (.cellN a n)
      | some false, some _ => some (.cell1 a)
      | _, _ => none
    | false => none
noncomputable def resRs (P : Program) : List ResultVar → Option (List RRes)
  | [] => some []
  | r :: l => match resR P r with
    | none => none
    | some a => match resRs P l with
      | none => none
      | some b => some (a :: b)
structure RF where
  n : Nat
  c : RC
  rs : List RRes
noncomputable def resFn (P : Program) (f : Nat) : Option RF :=
  match callable P f && !(isClone P f) && !(livesF P f) with
  | false => none
  | true => match P.funcs[f]? with
    | none => none
    | some fn => match fn.body with
      | none => none
      | some b => match Nat.ble fn.ntmps lim with
        | false => none
        | true => match resC P fn.ntmps b with
          | none => none
          | some c => match resRs P fn.results.toList with
            | none => none
            | some rs => some ⟨fn.ntmps, c, rs⟩

noncomputable def resL (ρ : LEnv) (G : LHeap) : List RRes → (List LV → Prop) → Prop
  | [], K => K []
  | r :: l, K => match r with
    | .tmp t => resL ρ G l fun vs => K (lk ρ t :: vs)
    | .cell1 t => read1 G (lk ρ t) fun v => resL ρ G l fun vs => K (v :: vs)
    | .cellN t n => readL G (lk ρ t) n fun cs => resL ρ G l fun vs => K (.agg cs :: vs)
def oneL : List LV → LV
  | [v] => v
  | l => .tup l
def argsL : List LV → Nat → LEnv
  | [], _ => []
  | v :: l, i => (i, v) :: argsL l (i + 1)
/-- The marks are taken. -/
def takeL : List Nat → LHeap → (LHeap → Prop) → Prop
  | [], G, K => K G
  | d :: l, G, K => match G[d]? with
    | some (.defd true) => takeL l (G.set d (.defd false)) K
    | _ => False

section fns
variable {P : Program}
theorem resR_ok {c : Cx} {G : LHeap} {ρ : LEnv} {E : Tr AV} (hs : HSim c G) (hE : EnvL c ρ E) : ∀ {l : List ResultVar} {rs : List RRes} {K : List LV → Prop}, resRs P l = some rs → resL ρ G rs K → ∃ vs as, (ressF P l).run E c.H = some as ∧ ARs c vs as ∧ K vs
  | [], rs, K, h, k => by cases h; exact ⟨[], [], rfl, .nil, k⟩
  | r :: l, rs, K, h, k => by
    simp only [resRs] at h
    split at h
    · cases h
    · rename_i a ha
      split at h
      · cases h
      · rename_i b hb
        cases h
        simp only [ressF]
        cases r with
        | tmp t =>
          simp only [resR] at ha
          split at ha
          · rename_i hl
            cases ha
            obtain ⟨vs, as, q1, q2, q3⟩ := resR_ok hs hE hb (show resL ρ G b (fun vs => K (lk ρ t :: vs)) from k)
            have hop : (opd (.tmp t)).run E = some ((getP (pathOf t) E).getD undefA) := by
              unfold opd
              dsimp only
              rw [hl]
              dsimp only
              cases getP (pathOf t) E <;> rfl
            refine ⟨_, _, ?_, .cons (hE t) q2, q3⟩
            simp only [resF]
            rw [hop, q1]
          · cases ha
        | cell t ty =>
          simp only [resR] at ha
          split at ha
          · rename_i hl
            have hop : (opd (.tmp t)).run E = some ((getP (pathOf t) E).getD undefA) := by
              unfold opd
              dsimp only
              rw [hl]
              dsimp only
              cases getP (pathOf t) E <;> rfl
            split at ha
            · rename_i m h1 h2
              cases ha
              obtain ⟨o, v, i, l', cs, p1, p2, p3, p4⟩ := readL_ok hs (hE t) (show readL G (lk ρ t) m (fun cs => resL ρ G b fun vs => K (.agg cs :: vs)) from k)
              obtain ⟨vs, as, q1, q2, q3⟩ := resR_ok hs hE hb p4
              refine ⟨_, _, ?_, .cons (.agg p3) q2, q3⟩
              simp only [Sv.resF, h1, h2]
              rw [hop, p1]
              dsimp only
              rw [p2, q1]
            · rename_i m h1 h2
              cases ha
              obtain ⟨o, v, i, w, bb, p1, p2, p3, p4⟩ := read1_ok hs (hE t) (show read1 G (lk ρ t) (fun v => resL ρ G b fun vs => K (v :: vs)) from k)
              obtain ⟨vs, as, q1, q2, q3⟩ := resR_ok hs hE hb p4
              refine ⟨_, _, ?_, .cons p3 q2, q3⟩
              simp only [Sv.resF, h1, h2]
              rw [hop, p1]
              dsimp only
              rw [p2]
              dsimp only
              rw [q1]
            · cases ha
          · cases ha
end fns
end Go.Sv
/- The logic's functions: bodies, contracts. -/
namespace Go.Sv

section fns
variable {P : Program}

theorem lk_argsL : ∀ (l : List LV) (i t : Nat), lk (argsL l i) t = if i ≤ t ∧ t < i + l.length then l.getD (t - i) .any else .any
  | [], i, t => by simp only [argsL, lk_nil, List.length_nil]; rw [if_neg (by omega)]
  | v :: l, i, t => by
    simp only [argsL, lk_cons, List.length_cons]
    rw [lk_argsL l (i + 1) t]
    by_cases h : t = i
    · subst h; rw [if_pos rfl, if_pos (by omega)]; simp
    · rw [if_neg h]
      by_cases h2 : i + 1 ≤ t ∧ t < i + 1 + l.length
      · rw [if_pos h2, if_pos (by omega), show t - i = (t - (i + 1)) + 1 from by omega]; simp
      · rw [if_neg h2, if_neg (by omega)]
theorem EnvL.start {c : Cx} {args : List LV} {args1 : List AV} (h : ARs c args args1) : EnvL c (argsL args 0) (ofListFrom args1 0 .e) := by
  intro t
  rw [lk_argsL, get_ofList, getP_e]
  have hl := h.length
  by_cases ht : t < args.length
  · rw [if_pos (by omega), if_pos (by omega)]
    obtain ⟨a, q1, q2⟩ := h.get (List.getElem?_eq_getElem ht)
    rw [Nat.sub_zero, q1, List.getD_eq_getElem?_getD, List.getElem?_eq_getElem ht]
    exact q2
  · rw [if_neg (by omega)]; exact .any _

theorem takeL_ok {K : LHeap → Prop} : ∀ {D : List Nat} {D1 : List Nat} {c : Cx} {G : LHeap}, DRs c D D1 → HSim c G → takeL D G K → ∃ c' G', takeDefs D1 c.H = some c'.H ∧ HSim c' G' ∧ Step c G c' G' ∧ K G'
  | [], _, c, G, .nil, hs, h => ⟨c, G, rfl, hs, .refl c G, h⟩
  | d :: D, _, c, G, .cons (o := o) e es, hs, h => by
    simp only [takeL] at h
    split at h
    · rename_i hg
      obtain ⟨_, o', he, hget⟩ := hs.obj d _ _ _ hg e
      injection he with he
      subst he
      obtain ⟨q1, q2, q3⟩ := hs.upd (k' := 0) (x' := .ptr o 0 0) (ob' := .defd false) (H' := c.H.put o (.defd false)) hg rfl e (Nat.le_refl _) (fun o' _ hne => Heap.get_put_ne _ _ (fun q => hne (by rw [q]; rfl)))
        (fun o' e' => by cases e'; exact ⟨.inl rfl, hs.lt o ⟨d, _, _, _, hg, rfl, e, rfl⟩⟩) (Nat.le_refl _) (fun _ => rfl) (fun _ => rfl) (.inr ⟨rfl, Nat.le_refl _⟩) (fun _ => ⟨rfl, o, rfl, Heap.get_put_same _ _ _⟩)
      obtain ⟨c', G', r1, r2, r3, r4⟩ := takeL_ok (es.mono q3) q1 h
      refine ⟨c', G', ?_, r2, .trans hs q1 q2 r3, r4⟩
      simp only [takeDefs]
      rw [hget]
      exact r1
    · exact h.elim

def oneA : List AV → AV
  | [v] => v
  | l => .tup l
theorem CallL_body {f : Nat} {s : LC} {n : Nat} {rs : List RRes} (hf : resFn P f = some ⟨n, s.r, rs⟩) (hok : s.ok = true) {args : List LV} (hn : args.length ≤ n) {G : LHeap} {K : LV → LHeap → Prop}
    (h : W P f n s none (argsL args 0) [] G fun x ρ D G' => (match x with | .exit _ => False | _ => True) ∧ takeL D G' fun G2 => resL ρ G2 rs fun vs => K (oneL vs) G2) : CallL P (.fn f) args G K := by
  unfold resFn at hf
  split at hf
  · cases hf
  · rename_i hcl
    simp only [Bool.and_eq_true, Bool.not_eq_true'] at hcl
    refine ⟨hcl.1, fun c t1 args1 hs ht ha => ?_⟩
    cases t1 with
    | yield o => exact ht.elim
    | fn g =>
      obtain rfl : f = g := ht
      split at hf
      · cases hf
      · rename_i fn hfn
        split at hf
        · cases hf
        · rename_i b hb
          split at hf
          · cases hf
          · rename_i hlim
            split at hf
            · cases hf
            · rename_i rc hrc
              split at hf
              · cases hf
              · rename_i rs' hrs
                cases hf
                obtain ⟨m, x, E', D1', c', ρ', D', G', q1, q2, q3, q4, q5, q6, q7⟩ := h b c _ [] none hrc hok hs (EnvL.start ha) .nil trivial
                obtain ⟨c2, G2, r1, r2, r3, r4⟩ := takeL_ok q5 q2 q7
                obtain ⟨vs, as, s1, s2, s3⟩ := resR_ok r2 (q4.mono r3.le) hrs r4
                have hone : AR c2 (oneL vs) (oneA as) := by
                  cases s2 with
                  | nil => exact .tup .nil
                  | cons e es =>
                    cases es with
                    | nil => exact e
                    | cons e2 es2 => exact .tup (.cons e (.cons e2 es2))
                refine ⟨m + 1, oneA as, c2.H, ?_, c2, oneL vs, G2, rfl, r2, .trans hs q2 q3 r3, hone, s3⟩
                unfold callA
                dsimp only
                rw [OL_no hcl.2]
                dsimp only
                unfold compFn
                rw [hfn]
                dsimp only
                rw [hb]
                dsimp only
                rw [if_pos (Nat.le_of_ble_eq_true hlim)]
                dsimp only
                have hba : Nat.ble args1.length fn.ntmps = true := Nat.ble_eq_true_of_le (by rw [← ha.length]; exact hn)
                rw [hba]
                dsimp only
                rw [q1]
                dsimp only
                cases x with
                | exit id => exact q6.elim
                | normal =>
                  dsimp only
                  rw [r1]
                  dsimp only
                  rw [s1]
                  rcases as with _ | ⟨a, _ | ⟨a2, as⟩⟩ <;> rfl
                | ret =>
                  dsimp only
                  rw [r1]
                  dsimp only
                  rw [s1]
                  rcases as with _ | ⟨a, _ | ⟨a2, as⟩⟩ <;> rfl

theorem CallL.mono {t : LTgt} {args : List LV} {G : LHeap} {K K' : LV → LHeap → Prop} (h : CallL P t args G K) (hk : ∀ v G, K v G → K' v G) : CallL P t args G K' :=
  ⟨h.1, fun c t1 args1 h1 h2 h3 => by
    obtain ⟨m, v1, H', q1, c', v, G', q2, q3, q4, q5, q6⟩ := h.2 c t1 args1 h1 h2 h3
    exact ⟨m, v1, H', q1, c', v, G', q2, q3, q4, q5, hk _ _ q6⟩⟩

/-! ### Contracts: rows that are handed back are new, and the caller's own -/
mutual
def LV.sim (m : Nat) : LV → Bool
  | .bool _ | .u _ | .b _ | .i _ | .int _ _ | .str _ | .nilPtr | .nilSl | .nilMap | .nilFn | .nilIf => true
  | .dy j k => k == 0 && decide (j < m)
  | .agg l => sims m l
  | .tup l => sims m l
  | _ => false
def sims (m : Nat) : List LV → Bool
  | [] => true
  | v :: l => v.sim m && sims m l
end
mutual
/-- Rows by what they are called in a function's own memory. -/
def subV (sel : List LV) : LV → LV
  | .dy j _ => sel.getD j .any
  | .agg l => .agg (subVs sel l)
  | .tup l => .tup (subVs sel l)
  | v => v
def subVs (sel : List LV) : List LV → List LV
  | [] => []
  | v :: l => subV sel v :: subVs sel l
end
def notP (p : Nat) : LV → Prop
  | .dy q _ => q ≠ p
  | _ => True
def SelR (G : LHeap) : List LV → LHeap → Prop
  | [], [] => True
  | .dy p k :: s, .dyn l len esz ver st :: g => ver = 0 ∧ l.all LV.scal = true ∧ (∃ st', G[p]? = some (.dyn l len esz k st')) ∧ st = 0 ∧ (∀ x ∈ s, notP p x) ∧ SelR G s g
  | .nilSl :: s, .dyn l len _ ver st :: g => ver = 0 ∧ st = 0 ∧ l = [] ∧ len = 0 ∧ SelR G s g
  | _, _ => False
def FnS (P : Program) (f : Nat) (args : List LV) (v0 : LV) (G0 : LHeap) : Prop :=
  tgtOk P (.fn f) ∧ v0.sim G0.length = true ∧ (∀ (j : Nat) (ob : LObj), G0[j]? = some ob → ∃ l len esz, ob = .dyn l len esz 0 0 ∧ l.all LV.scal = true) ∧ ∀ (Fz : Nat → Prop) (H : Heap) (args1 : List AV), (∀ o, Fz o → o < H.next) → ARs ⟨[], Fz, H⟩ args args1 →
    ∃ m v1 hd' H', callA P (OL P) m (.fn f) args1 H = .ok v1 H' ∧ HSim ⟨hd', Fz, H'⟩ G0 ∧ AR ⟨hd', Fz, H'⟩ v0 v1 ∧ H.next ≤ H'.next ∧ (∀ o, o < H.next → H'.get o = H.get o) ∧ ∀ o, Own ⟨hd', Fz, H'⟩ G0 o → H.next ≤ o

theorem scals_any {c c' : Cx} : ∀ {l : List LV} {r : List AV}, l.all LV.scal = true → ARs c l r → ARs c' l r
  | [], _, _, .nil => .nil
  | v :: l, _, h, .cons e es => by
    simp only [List.all_cons, Bool.and_eq_true] at h
    refine .cons ?_ (scals_any h.2 es)
    cases v <;> first | (cases h.1; done) | (cases e; constructor)

theorem HSim.empty {Fz : Nat → Prop} {H : Heap} (h : ∀ o, Fz o → o < H.next) : HSim ⟨[], Fz, H⟩ [] :=
  ⟨rfl, h, fun o ⟨p, _, _, _, e, _⟩ => by simp at e, fun o ⟨p, _, _, _, e, _⟩ => by simp at e, fun p _ _ _ e => by simp at e, fun p _ _ _ _ _ _ _ _ e => by simp at e⟩

theorem sel_build {c : Cx} {G : LHeap} (hs : HSim c G) : ∀ {sel : List LV} {G0 : LHeap}, SelR G sel G0 → ∃ hd' : List (Nat × AV), hd'.length = G0.length ∧
    (∀ (j : Nat) (ob : LObj) (k : Nat) (h : AV), G0[j]? = some ob → hd'[j]? = some (k, h) → k = 0 ∧ (∀ c' : Cx, c'.H = c.H → ObR c' 0 h ob) ∧ (∃ l len esz, ob = .dyn l len esz 0 0 ∧ l.all LV.scal = true) ∧
      ((sel[j]? = some .nilSl ∧ h = .nilSl) ∨ ∃ p k', sel[j]? = some (.dy p k') ∧ c.hd[p]? = some (k', h) ∧ (∀ o, idOf h = some o → Own c G o) ∧ ∃ ob1, G[p]? = some ob1 ∧ ob1.live = true)) ∧
    (∀ (i j p k q k' : Nat), sel[i]? = some (.dy p k) → sel[j]? = some (.dy q k') → p = q → i = j)
  | [], [], _ => ⟨[], rfl, fun j ob k h e => by simp at e, fun i j p k q k' e => by simp at e⟩
  | [], _ :: _, h => h.elim
  | s :: sel, [], h => by cases s <;> exact h.elim
  | s :: sel, ob :: G0, h => by
    cases s <;> cases ob <;> first | exact h.elim | skip
    · rename_i l len esz ver st
      obtain ⟨rfl, rfl, rfl, rfl, h⟩ := h
      obtain ⟨hd', q1, q2, q3⟩ := sel_build hs h
      refine ⟨(0, .nilSl) :: hd', by simp [q1], fun j ob k h e1 e2 => ?_, fun i j p k q k' e1 e2 e3 => ?_⟩
      · cases j with
        | zero =>
          simp only [List.getElem?_cons_zero, Option.some.injEq] at e1 e2
          cases e1; cases e2
          exact ⟨rfl, fun c' _ => ⟨rfl, by simp, .inl ⟨rfl, rfl⟩⟩, ⟨_, _, _, rfl, rfl⟩, .inl ⟨rfl, rfl⟩⟩
        | succ j => exact q2 j ob k h (by simpa using e1) (by simpa using e2)
      · cases i with
        | zero => simp at e1
        | succ i => cases j with
          | zero => simp at e2
          | succ j => have := q3 i j p k q k' (by simpa using e1) (by simpa using e2) e3; omega
    · rename_i p k l len esz ver st
      obtain ⟨rfl, hsc, ⟨st', hg⟩, rfl, hne, h⟩ := h
      obtain ⟨hd', q1, q2, q3⟩ := sel_build hs h
      have hp : p < c.hd.length := by rw [hs.len]; exact (List.getElem?_eq_some_iff.1 hg).1
      obtain ⟨k0, h0, e0⟩ : ∃ k h, c.hd[p]? = some (k, h) := ⟨_, _, List.getElem?_eq_getElem hp⟩
      have hob := hs.obj p _ _ _ hg e0
      have hk := hob.1
      subst hk
      have mem_ne : ∀ (j q k' : Nat), sel[j]? = some (.dy q k') → q ≠ p := fun j q k' e => hne _ (List.mem_of_getElem? e)
      refine ⟨(0, h0) :: hd', by simp [q1], fun j ob k h e1 e2 => ?_, fun i j p' k q k' e1 e2 e3 => ?_⟩
      · cases j with
        | zero =>
          simp only [List.getElem?_cons_zero, Option.some.injEq] at e1 e2
          cases e1; cases e2
          refine ⟨rfl, fun c' hc' => ?_, ⟨_, _, _, rfl, hsc⟩, .inr ⟨p, _, rfl, e0, fun o ho => ⟨p, _, _, _, hg, rfl, e0, ho⟩, _, hg, rfl⟩⟩
          obtain ⟨_, r1, r2⟩ := hob
          refine ⟨rfl, r1, ?_⟩
          rcases r2 with r2 | ⟨o, v, room, t, clen, l', r2, r3, r4, r5, r6, r7⟩
          · exact .inl r2
          · exact .inr ⟨o, v, room, t, clen, l', r2, by rw [hc']; exact r3, r4, r5, scals_any hsc r6, r7⟩
        | succ j => exact q2 j ob k h (by simpa using e1) (by simpa using e2)
      · cases i with
        | zero =>
          simp only [List.getElem?_cons_zero, Option.some.injEq] at e1
          cases e1
          cases j with
          | zero => rfl
          | succ j => exact absurd e3.symm (mem_ne j q k' (by simpa using e2))
        | succ i => cases j with
          | zero =>
            simp only [List.getElem?_cons_zero, Option.some.injEq] at e2
            cases e2
            exact absurd e3 (mem_ne i p' k (by simpa using e1))
          | succ j => have := q3 i j p' k q k' (by simpa using e1) (by simpa using e2) e3; omega

mutual
theorem sub_AR {c c' : Cx} {sel : List LV} (hsel : ∀ (j : Nat) (v : LV) (a : AV), sel[j]? = some v → AR c v a → AR c' (.dy j 0) a) (v : LV) (a : AV) (hsim : v.sim sel.length = true) (h : AR c (subV sel v) a) : AR c' v a := by
  cases v with
  | dy j k =>
    simp only [LV.sim, Bool.and_eq_true, beq_iff_eq, decide_eq_true_eq] at hsim
    obtain ⟨rfl, hjl⟩ := hsim
    refine hsel j _ a (List.getElem?_eq_getElem hjl) ?_
    unfold subV at h
    rwa [List.getD_eq_getElem?_getD, List.getElem?_eq_getElem hjl] at h
  | agg l =>
    simp only [LV.sim] at hsim
    simp only [subV] at h
    cases h with
    | agg h => exact .agg (sub_ARs hsel l _ hsim h)
  | tup l =>
    simp only [LV.sim] at hsim
    simp only [subV] at h
    cases h with
    | tup h => exact .tup (sub_ARs hsel l _ hsim h)
  | _ => first | (simp only [LV.sim] at hsim; cases hsim; done) | (simp only [subV] at h; cases h; constructor)
termination_by SizeOf.sizeOf v
theorem sub_ARs {c c' : Cx} {sel : List LV} (hsel : ∀ (j : Nat) (v : LV) (a : AV), sel[j]? = some v → AR c v a → AR c' (.dy j 0) a) (l : List LV) (r : List AV) (hsim : sims sel.length l = true) (h : ARs c (subVs sel l) r) : ARs c' l r := by
  cases l with
  | nil => simp only [subVs] at h; cases h; exact .nil
  | cons v l =>
    simp only [sims, Bool.and_eq_true] at hsim
    simp only [subVs] at h
    cases h with
    | cons e es => exact .cons (sub_AR hsel v _ hsim.1 e) (sub_ARs hsel l _ hsim.2 es)
termination_by SizeOf.sizeOf l
end

/-- A contract out of a function's own run. -/
theorem FnS.mk {f : Nat} {args : List LV} {v0 : LV} {G0 : LHeap} (hsim : v0.sim G0.length = true) (h : CallL P (.fn f) args [] fun v G => ∃ sel, v = subV sel v0 ∧ sel.length = G0.length ∧ SelR G sel G0) (hG : ∀ (j : Nat) (ob : LObj), G0[j]? = some ob → ∃ l len esz, ob = .dyn l len esz 0 0 ∧ l.all LV.scal = true) : FnS P f args v0 G0 := by
  refine ⟨h.1, hsim, hG, fun Fz H args1 hfz ha => ?_⟩
  obtain ⟨m, v1, H', q1, c1, v, G, rfl, q3, q4, q5, sel, rfl, hlen, hr⟩ := h.2 ⟨[], Fz, H⟩ (.fn f) args1 (.empty hfz) rfl ha
  obtain ⟨hd', r1, r2, r3⟩ := sel_build q3 hr
  have hd_of : ∀ (j : Nat) (ob : LObj), G0[j]? = some ob → ∃ k h, hd'[j]? = some (k, h) := fun j ob e => ⟨_, _, List.getElem?_eq_getElem (by rw [r1]; exact (List.getElem?_eq_some_iff.1 e).1)⟩
  have hown : ∀ o, Own ⟨hd', Fz, c1.H⟩ G0 o → Own c1 G o := by
    rintro o ⟨j, ob, k, h, e1, e2, e3, e4⟩
    obtain ⟨_, _, _, s4⟩ := r2 j ob k h e1 e3
    rcases s4 with ⟨_, s4⟩ | ⟨p, k', _, _, s6, _⟩
    · rw [s4] at e4; cases e4
    · exact s6 o e4
  have hnew : ∀ o, Own ⟨hd', Fz, c1.H⟩ G0 o → H.next ≤ o := fun o ho => by
    rcases q4.new o (hown o ho) with ⟨p, _, _, _, e, _⟩ | h
    · simp at e
    · exact h
  have hno : ∀ o, ¬ Own ⟨[], Fz, H⟩ [] o := fun o ⟨p, _, _, _, e, _⟩ => by simp at e
  have hs' : HSim ⟨hd', Fz, c1.H⟩ G0 := by
    refine ⟨r1, fun o ho => Nat.lt_of_lt_of_le (hfz o ho) q4.nx, fun o ho => q3.lt o (hown o ho), fun o ho hf => ?_, fun j ob k h e1 e2 => ?_, fun i j ob ob' k h k' h' o e1 e2 e3 e4 e5 e6 e7 e8 => ?_⟩
    · have := hnew o ho; have := hfz o hf; omega
    · obtain ⟨s1, s2, _⟩ := r2 j ob k h e1 e2
      rw [s1]; exact s2 _ rfl
    · obtain ⟨_, _, _, s4⟩ := r2 i ob k h e1 e5
      obtain ⟨_, _, _, t4⟩ := r2 j ob' k' h' e2 e6
      rcases s4 with ⟨_, s4⟩ | ⟨p, kp, s5, s6, _, o1, g1, g2⟩
      · rw [s4] at e7; cases e7
      · rcases t4 with ⟨_, t4⟩ | ⟨q, kq, t5, t6, _, o2, g3, g4⟩
        · rw [t4] at e8; cases e8
        · refine r3 i j p kp q kq s5 t5 ?_
          exact q3.excl p q o1 o2 kp h kq h' o g1 g3 g2 g4 s6 t6 e7 e8
  refine ⟨m, v1, hd', c1.H, q1, hs', ?_, q4.nx, fun o ho => q4.frame o ho (hno o), hnew⟩
  refine sub_AR (c := c1) (fun j v a e1 e2 => ?_) v0 v1 (by rw [hlen]; exact hsim) q5
  have hj : j < G0.length := by rw [← hlen]; exact (List.getElem?_eq_some_iff.1 e1).1
  obtain ⟨k, h, e3⟩ := hd_of j _ (List.getElem?_eq_getElem hj)
  obtain ⟨rfl, _, _, s4⟩ := r2 j _ k h (List.getElem?_eq_getElem hj) e3
  rcases s4 with ⟨s4, s5⟩ | ⟨p, k', s4, s5, _⟩
  · rw [e1] at s4; cases s4; cases e2
    exact .dy e3 (Nat.le_refl _) (fun _ => s5.symm) rfl
  · rw [e1] at s4; cases s4
    cases e2 with
    | dy f1 f2 f3 f4 =>
      rw [s5] at f1
      cases f1
      exact .dy e3 (Nat.le_refl _) (fun _ => f3 rfl) f4
end fns
end Go.Sv
/- The logic's regions that draw their order. -/
namespace Go.Sv

/-- Which object an operation reads; 'none' within: none that anybody turns. -/
noncomputable def tgtL (ρ : LEnv) (G : LHeap) : LOp → Option (Option Nat)
  | .load1 x | .loadN _ x => match x.ev ρ with
    | .ptr p _ => some (some p)
    | .dptr p k _ => match G[p]? with
      | some (.dyn _ _ _ ver _) => if k = ver then some (some p) else none
      | _ => none
    | .cptr _ _ => some none
    | _ => none
  | .cvStr x => match x.ev ρ with
    | .nilSl => some none
    | .lst _ _ _ => some none
    | .dy p k => match G[p]? with
      | some (.dyn _ _ _ ver _) => if k = ver then some (some p) else none
      | _ => none
    | _ => none
  | _ => none
/-- An object is as it was. -/
def keptL (G G' : LHeap) (p : Nat) : Prop := match G[p]?, G'[p]? with
  | some a, some b => a.stp = true ∧ a.st = b.st
  | _, _ => False
noncomputable def ckC (ρ : LEnv) (G G' : LHeap) (x : LI × Bool) : Prop := match x.2 with
  | false => match tgtL ρ G x.1.o with
    | some none => True
    | some (some p) => keptL G G' p
    | none => False
  | true => match x.1.d with
    | none => False
    | some d => match lk ρ d with
      | .ptr p _ => keptL G G' p
      | .dy p k => (match G[p]? with
        | some (.dyn _ _ _ ver _) => k = ver
        | _ => False) ∧ keptL G G' p
      | _ => False
noncomputable def ckL (ρ : LEnv) (G G' : LHeap) (x : LI × Bool) : Prop := match x.1.g with
  | none => ckC ρ G G' x
  | some (t, w) => match lk ρ t with
    | .bool b => b = w → ckC ρ G G' x
    | _ => ckC ρ G G' x
noncomputable def cksL (ρ : LEnv) (G G' : LHeap) : List (LI × Bool) → Prop
  | [] => True
  | x :: l => ckL ρ G G' x ∧ cksL ρ G G' l
noncomputable def DrL (P : Program) : List (LI × List (LI × Bool)) → LEnv → LHeap → (LEnv → LHeap → Prop) → Prop
  | [], ρ, G, K => K ρ G
  | (x, cs) :: l, ρ, G, K => ItL P x ρ G fun ρ' G' => cksL ρ G G' cs ∧ DrL P l ρ' G' K

section al
variable {P : Program}
theorem reId_self {v : AV} {id n : Nat} (h : idOf v = some id) : reId id (reId n v) = v := by
  cases v <;> first | (cases h; done) | (cases h; rfl)
theorem newVar_any {H H1 : Heap} {l : List AV} {v : AV} (h : newVarA H l = .val v H1) : ∃ ob, H1 = H.push ob ∧ idOf v = some H.next ∧ ∀ H2, newVarA H2 l = .val (reId H2.next v) (H2.push ob) := by
  unfold newVarA newObj at h
  cases h
  exact ⟨_, rfl, rfl, fun H2 => rfl⟩
theorem newSl_any {H H1 : Heap} {l : List AV} {a b : Nat} {r : Option Nat} {v : AV} (h : (match newObj H l with
    | some (o, H') => OR.val (.sl o 0 0 a b r) H'
    | none => .no) = .val v H1) : ∃ ob, H1 = H.push ob ∧ idOf v = some H.next ∧ ∀ H2, (match newObj H2 l with
    | some (o, H') => OR.val (.sl o 0 0 a b r) H'
    | none => .no) = .val (reId H2.next v) (H2.push ob) := by
  unfold newObj at h
  cases h
  exact ⟨_, rfl, rfl, fun H2 => rfl⟩
/-- What just makes an object makes it whatever else there is. -/
theorem al_any {o : Op} (hc : cls P o = .al) {E : Tr AV} {H H1 : Heap} {v : AV} (h : (compOp P o).run E H = .val v H1) : ∃ ob, H1 = H.push ob ∧ idOf v = some H.next ∧ ∀ H2, (compOp P o).run E H2 = .val (reId H2.next v) (H2.push ob) := by
  cases o with
  | alloc t =>
    simp only [compOp] at h ⊢
    split at h
    · exact newVar_any h
    · cases h
  | box t x =>
    simp only [compOp, unary1] at h ⊢
    cases hx : (opd x).run E with
    | none => rw [hx] at h; cases h
    | some a =>
      rw [hx] at h
      dsimp only at h ⊢
      cases hl : a.cells with
      | none => rw [hl] at h; cases h
      | some l => rw [hl] at h; exact newVar_any h
  | buildSlice t len parts =>
    simp only [compOp, buildSliceF] at h ⊢
    split at h
    · split at h
      · cases h
      · split at h
        · cases h
        · rename_i z hz
          by_cases hb : len * ‹Nat› ≤ 2 ^ 20 ∧ 0 < ‹Nat›
          · rw [if_pos hb] at h ⊢
            split at h
            · cases h
            · dsimp only at h ⊢
              split at h
              · exact newSl_any h
              · cases h
          · rw [if_neg hb] at h; cases h
    · cases h
  | makeSlice t l c =>
    simp only [compOp, mkSliceF] at h ⊢
    split at h
    · split at h
      · cases h
      · split at h
        · cases h
        · split at h
          · rename_i i hi z hz hb
            simp only [if_pos hb]
            simp only [binary2] at h ⊢
            cases hl : (opd l).run E with
            | none => rw [hl] at h; cases h
            | some a =>
              rw [hl] at h
              cases hcc : (opd c).run E with
              | none => rw [hcc] at h; cases h
              | some b =>
                rw [hcc] at h
                dsimp only at h ⊢
                split at h
                · rename_i n m
                  cases h1 : Nat.ble n m with
                  | false => rw [h1] at h; cases h
                  | true =>
                    rw [h1] at h
                    cases h2 : Nat.ble m 1048576 with
                    | false => rw [h2] at h; cases h
                    | true => rw [h2] at h; exact newSl_any h
                · cases h
          · cases h
    · cases h
  | makeMap t r =>
    have pm : ∀ {v : AV} {H1 : Heap}, pushMap H = .val v H1 → ∃ ob, H1 = H.push ob ∧ idOf v = some H.next ∧ ∀ H2, pushMap H2 = .val (reId H2.next v) (H2.push ob) := fun h => by
      unfold pushMap at h
      cases h
      exact ⟨_, rfl, rfl, fun H2 => rfl⟩
    simp only [compOp, mkMapF] at h ⊢
    split at h
    · exact pm h
    · rename_i x
      split at h
      · simp only [unary1] at h ⊢
        cases hx : (opd x).run E with
        | none => rw [hx] at h; cases h
        | some a =>
          rw [hx] at h
          dsimp only at h ⊢
          split at h
          · exact pm h
          · cases h
      · cases h
  | _ =>
    exfalso
    simp only [cls] at hc
    first
      | (cases hc; done)
      | (split at hc <;> first | (cases hc; done) | (split at hc <;> cases hc))
      | (simp only [clsCall] at hc; split at hc <;> first | (cases hc; done) | (split at hc <;> first | (cases hc; done) | (split at hc <;> cases hc)))
end al

section draw
variable {P : Program} {n : Nat} {ops : Array Oper}

/-- What was read or made is so still. -/
def Valid (P : Program) (ops : Array Oper) (x : DOp) (E : Tr AV) (H : Heap) : Prop := match x.c with
  | .rd => (guardF ops x.o).run E = true → ∃ d v, x.o.dst = some d ∧ getP (pathOf d) E = some v ∧ (compOp P x.o.op).run E H = .val v H
  | .al => (guardF ops x.o).run E = true → ∃ d v id ob, x.o.dst = some d ∧ getP (pathOf d) E = some v ∧ idOf v = some id ∧ H.get id = some ob ∧ ∀ H2, (compOp P x.o.op).run E H2 = .val (reId H2.next v) (H2.push ob)
  | _ => True
theorem valid_recheck {x : DOp} {E : Tr AV} {H : Heap} (h : Valid P ops x E H) (hc : x.c = .rd ∨ x.c = .al) (hd : ownDst ops x = true) : (recheck P ops x).run E H = true := by
  unfold recheck
  cases hdst : x.o.dst with
  | none => unfold ownDst at hd; rw [hdst] at hd; cases hd
  | some d =>
    dsimp only
    cases hg : (guardF ops x.o).run E with
    | false => rfl
    | true =>
      dsimp only
      unfold Valid at h
      rcases hc with hc | hc
      · rw [hc] at h
        obtain ⟨d', v, h1, h2, h3⟩ := h hg
        rw [hdst] at h1; cases h1
        rw [h2, h3, hc]
        dsimp only
        unfold sameB
        split
        · rfl
        · exact @decide_eq_true _ (Classical.propDecidable _) rfl
      · rw [hc] at h
        obtain ⟨d', v, id, ob, h1, h2, h3, h4, h5⟩ := h hg
        rw [hdst] at h1; cases h1
        rw [h2, h5 H, hc]
        dsimp only
        unfold reMade
        rw [h3]
        dsimp only
        have e1 : sameB (eqAV 30 v (reId id (reId H.next v))) v (reId id (reId H.next v)) = true := by
          unfold sameB
          split
          · rfl
          · exact @decide_eq_true _ (Classical.propDecidable _) (reId_self h3).symm
        rw [e1, h4, Heap.get_push_same]
        dsimp only
        unfold sameB
        split
        · rfl
        · exact @decide_eq_true _ (Classical.propDecidable _) rfl
theorem memN_spec {t : Nat} : ∀ {l : List Nat}, memN t l = false → t ∉ l
  | [], _ => by simp
  | a :: l, h => by
    simp only [memN] at h
    cases hb : Nat.beq t a with
    | true => rw [hb] at h; cases h
    | false =>
      rw [hb] at h
      intro hm
      rcases List.mem_cons.1 hm with rfl | hm
      · rw [Nat.beq_refl] at hb; cases hb
      · exact memN_spec h hm
theorem off_same {x : DOp} {d : Option Nat} (h : offOf ops d x = true) (v : AV) (E : Tr AV) : Same (looks ops x.o) (putE d v E) E ∧ ∀ e, x.o.dst = some e → getP (pathOf e) (putE d v E) = getP (pathOf e) E := by
  cases d with
  | none => exact ⟨fun t _ _ => rfl, fun e _ => rfl⟩
  | some d =>
    unfold offOf at h
    dsimp only at h
    cases hm : memN d (looks ops x.o) with
    | true => rw [hm] at h; cases h
    | false =>
      rw [hm] at h
      dsimp only at h
      refine ⟨fun t ht _ => ?_, fun e he => ?_⟩
      · show getP (pathOf t) (setP v (pathOf d) E) = _
        rw [get_set_ne (fun q => memN_spec hm (by rw [← q]; exact ht))]
      · rw [he] at h
        dsimp only at h
        show getP (pathOf e) (setP v (pathOf d) E) = _
        rw [get_set_ne (fun q => by rw [q, Nat.beq_refl] at h; cases h)]
theorem Valid.put {x : DOp} {E : Tr AV} {H : Heap} (h : Valid P ops x E H) {d : Option Nat} (ho : offOf ops d x = true) (v : AV) : Valid P ops x (putE d v E) H := by
  obtain ⟨h1, h2⟩ := off_same ho v E
  have hg := guardF_cong (o := x.o) h1
  have hc : ∀ H2, (compOp P x.o.op).run (putE d v E) H2 = (compOp P x.o.op).run E H2 := fun H2 => compOp_cong' h1
  unfold Valid at h ⊢
  cases hx : x.c with
  | rd =>
    rw [hx] at h
    intro g
    obtain ⟨d', w, k1, k2, k3⟩ := h (by rw [← hg]; exact g)
    exact ⟨d', w, k1, by rw [h2 d' k1]; exact k2, by rw [hc]; exact k3⟩
  | al =>
    rw [hx] at h
    intro g
    obtain ⟨d', w, id, ob, k1, k2, k3, k4, k5⟩ := h (by rw [← hg]; exact g)
    exact ⟨d', w, id, ob, k1, by rw [h2 d' k1]; exact k2, k3, k4, fun H2 => by rw [hc]; exact k5 H2⟩
  | quiet => trivial
  | ch => trivial

theorem guard_res {x : DOp} {r : RI} (hr : resItem P n ops x.o = some r) (E : Tr AV) : (guardF ops x.o).run E = grd r.g E ∧ resOp P x.o.op = some r.o ∧ r.d = x.o.dst := by
  unfold resItem at hr
  split at hr
  · cases hr
  · split at hr
    · cases hr
    · rename_i ro hro
      split at hr
      · rename_i hg
        cases hr
        refine ⟨?_, hro, rfl⟩
        unfold guardF; rw [hg]; rfl
      · rename_i j w hg
        split at hr
        · cases hr
        · rename_i t ht
          split at hr
          · rename_i hl
            cases hr
            refine ⟨?_, hro, rfl⟩
            unfold guardF
            rw [hg]
            dsimp only
            rw [ht]
            dsimp only
            rw [if_pos (Nat.le_of_ble_eq_true hl)]
            rfl
          · cases hr

/-- What was read or made is so still where the object is as it was. -/
theorem Valid.keep {x : DOp} {li : LI} (hr : resItem P n ops x.o = some li.r) (hok : li.o.ok = true) {c c1 : Cx} {G G1 : LHeap} {ρ : LEnv} {E : Tr AV} (hs : HSim c G) (hE : EnvL c ρ E) (st : Step c G c1 G1) (hck : ckL ρ G G1 (li, isAl x))
    (h : Valid P ops x E c.H) : Valid P ops x E c1.H := by
  have hgr : ∀ {p k : Nat} {a : AV} {o : Nat}, keptL G G1 p → c.hd[p]? = some (k, a) → idOf a = some o → c1.H.get o = c.H.get o := by
    intro p k a o hk e1 e2
    unfold keptL at hk
    split at hk
    · rename_i a1 b1 g1 g2
      exact (st.st p a1 b1 k a o g1 g2 e1 e2 hk.1 hk.2).2.1
    · exact hk.elim
  obtain ⟨g1, g2, g3⟩ := guard_res hr E
  have hcore : (guardF ops x.o).run E = true → ckC ρ G G1 (li, isAl x) := by
    intro g
    rw [g1] at g
    unfold ckL at hck
    dsimp only at hck
    split at hck
    · exact hck
    · rename_i t w hg
      split at hck
      · rename_i b hb
        refine hck ?_
        have ht := hE t
        rw [hb] at ht
        rw [show li.r.g = li.g from rfl, hg] at g
        unfold grd at g
        dsimp only at g
        cases hq : getP (pathOf t) E with
        | none => rw [hq] at g; cases g
        | some a =>
          rw [hq] at g ht
          cases ht
          cases b <;> cases w <;> first | rfl | cases g
      · exact hck
  unfold Valid at h ⊢
  cases hx : x.c with
  | quiet => trivial
  | ch => trivial
  | rd =>
    rw [hx] at h
    intro g
    have hc := hcore g
    obtain ⟨d, v, k1, k2, k3⟩ := h g
    refine ⟨d, v, k1, k2, ?_⟩
    rw [resOp_ok (EnvR_ρA E) g2] at k3 ⊢
    have hal : isAl x = false := by unfold isAl; rw [hx]
    unfold ckC at hc
    rw [hal] at hc
    dsimp only at hc
    -- what is read, and where
    have ptr1 : ∀ {y : Lx}, y.ok = true → ∀ m, (match y.ev ρ with
        | .ptr p _ => some (some p)
        | .dptr p k _ => (match G[p]? with
          | some (.dyn _ _ _ ver _) => if k = ver then some (some p) else none
          | _ => none)
        | .cptr _ _ => some none
        | _ => (none : Option (Option Nat))) = some m → (∀ p, m = some p → keptL G G1 p) → ∃ o v i, y.r.ev (ρA E) = .ptr o v i ∧ c1.H.get o = c.H.get o := by
      intro y hy m hm hk
      have hv := Lx_ok hE hy
      generalize y.ev ρ = w at hm hv
      generalize y.r.ev (ρA E) = b at hv ⊢
      split at hm
      · rename_i p i
        cases hm
        cases hv with
        | ptr e => exact ⟨_, _, _, rfl, hgr (hk p rfl) e rfl⟩
      · rename_i p k i
        split at hm
        · rename_i l len esz ver stp hg
          by_cases hkv : k = ver
          · rw [if_pos hkv] at hm
            cases hm
            cases hv with
            | @dptr _ _ _ k' o v j hh e hk' ha =>
              have := (hs.obj p _ _ _ hg e).1
              obtain ⟨_, len', esz', room, rfl⟩ := ha (by omega)
              exact ⟨o, v, j, rfl, hgr (hk p rfl) e rfl⟩
          · rw [if_neg hkv] at hm; cases hm
        · cases hm
      · cases hm
        cases hv with
        | cptr hf hr hl => exact ⟨_, _, _, rfl, (st.le.fz _ hf).2⟩
      · cases hm
    have fin : ∀ m, tgtL ρ G li.o = some m → (∀ p, m = some p → keptL G G1 p) → evR P (ρA E) c1.H li.r.o = .val v c1.H := by
      intro m hm hk
      have k3' : evR P (ρA E) c.H li.o.r = .val v c.H := k3
      show evR P (ρA E) c1.H li.o.r = _
      unfold tgtL at hm
      split at hm
      · rename_i y ho
        rw [ho] at k3' hok ⊢
        obtain ⟨o, w, i, q1, q2⟩ := ptr1 hok m hm hk
        simp only [LOp.r, evR] at k3' ⊢
        rw [q1] at k3' ⊢
        dsimp only at k3' ⊢
        rw [readAt_congr q2]
        split at k3'
        · cases k3'; rfl
        · cases k3'
      · rename_i nn y ho
        rw [ho] at k3' hok ⊢
        obtain ⟨o, w, i, q1, q2⟩ := ptr1 hok m hm hk
        simp only [LOp.r, evR] at k3' ⊢
        rw [q1] at k3' ⊢
        dsimp only at k3' ⊢
        rw [readAt_congr q2]
        split at k3'
        · cases k3'; rfl
        · cases k3'
      · rename_i y ho
        rw [ho] at k3' hok ⊢
        have hv := Lx_ok hE hok
        simp only [LOp.r, evR] at k3' ⊢
        generalize y.ev ρ = w at hm hv
        generalize y.r.ev (ρA E) = b at hv k3' ⊢
        have done : (∀ o v i len esz room, b = .sl o v i len esz room → c1.H.get o = c.H.get o) → (match b with
            | .nilSl => OR.val (.str 0 0) c1.H
            | .sl o v i len 1 _ => match readAt c1.H o v i len with
              | some l => match convF.bytesA l with
                | some n => .val (.str len n) c1.H
                | none => .no
              | none => .no
            | _ => .no) = .val v c1.H := by
          intro hh
          split at k3'
          · cases k3'; rfl
          · rename_i o v2 i len room
            have e := hh o v2 i len 1 room rfl
            show (match readAt c1.H o v2 i len with
              | some l => match convF.bytesA l with
                | some n => OR.val (.str len n) c1.H
                | none => .no
              | none => .no) = .val v c1.H
            rw [readAt_congr e]
            split at k3'
            · rename_i hr0
              split at k3'
              · rename_i hb; cases k3'; rw [hr0]; dsimp only; rw [hb]
              · cases k3'
            · cases k3'
          · cases k3'
        split at hm
        · cases hv; exact done (fun _ _ _ _ _ _ e => by cases e)
        · cases hm
          cases hv with
          | lst hf hrm hlen hr hl => exact done (fun _ _ _ _ _ _ e => by cases e; exact (st.le.fz _ hf).2)
          | lstNil => exact done (fun _ _ _ _ _ _ e => by cases e)
          | lstEmp => exact done (fun _ _ _ _ _ _ e => by cases e)
        · rename_i p k
          split at hm
          · rename_i l len esz ver stp hg
            by_cases hkv : k = ver
            · rw [if_pos hkv] at hm
              cases hm
              cases hv with
              | @dy _ _ k' hh _ e hk' ha hsl =>
                have := (hs.obj p _ _ _ hg e).1
                have hha := ha (by omega)
                exact done (fun o v i len esz room eb => hgr (hk p rfl) e (by rw [← hha, eb]; rfl))
            · rw [if_neg hkv] at hm; cases hm
          · cases hm
        · cases hm
      · cases hm
    split at hc
    · rename_i hm; exact fin none hm (fun p e => by cases e)
    · rename_i p hm; exact fin (some p) hm (fun p' e => by cases e; exact hc)
    · exact hc.elim
  | al =>
    rw [hx] at h
    intro g
    have hc := hcore g
    obtain ⟨d, v, id, ob, k1, k2, k3, k4, k5⟩ := h g
    refine ⟨d, v, id, ob, k1, k2, k3, ?_, k5⟩
    have hal : isAl x = true := by unfold isAl; rw [hx]
    unfold ckC at hc
    rw [hal] at hc
    dsimp only at hc
    have hd : li.d = some d := by rw [← k1]; exact g3
    rw [hd] at hc
    dsimp only at hc
    have hv := hE d
    rw [k2] at hv
    split at hc
    · rename_i p i hl
      rw [hl] at hv
      cases hv with
      | ptr e => cases k3; rw [hgr hc e rfl]; exact k4
    · rename_i p k hl
      rw [hl] at hv
      obtain ⟨hc1, hc2⟩ := hc
      split at hc1
      · rename_i l len esz ver stp hg
        cases hv with
        | @dy _ _ k' hh _ e hk' ha hsl =>
          have := (hs.obj p _ _ _ hg e).1
          have hha : v = hh := ha (by omega)
          rw [hgr hc2 e (by rw [← hha]; exact k3)]; exact k4
      · exact hc1.elim
    · exact hc.elim

/-- The checks that are asked are those of operations that lie open. -/
theorem cks_mem : ∀ {pend : List DOp} {cs : List (LI × Bool)}, resCks P n ops pend = some (rck cs) → ∀ {ρ : LEnv} {G G' : LHeap}, cksL ρ G G' cs → ∀ x ∈ pend, ∃ li, resItem P n ops x.o = some li.r ∧ (li, isAl x) ∈ cs ∧ ckL ρ G G' (li, isAl x)
  | [], _, _, _, _, _, _, x, hx => by simp at hx
  | y :: pend, [], h, _, _, _, _, x, hx => by
    simp only [resCks] at h
    split at h
    · cases h
    · split at h <;> cases h
  | y :: pend, (li, b) :: cs, h, ρ, G, G', k, x, hx => by
    simp only [resCks] at h
    split at h
    · cases h
    · rename_i r hr
      split at h
      · cases h
      · rename_i rs hrs
        simp only [rck, Option.some.injEq, List.cons.injEq, Prod.mk.injEq] at h
        obtain ⟨⟨rfl, rfl⟩, h2⟩ := h
        rw [h2] at hrs
        rcases List.mem_cons.1 hx with rfl | hx
        · exact ⟨li, hr, by simp, k.1⟩
        · obtain ⟨li', q1, q2, q3⟩ := cks_mem hrs k.2 x hx
          exact ⟨li', q1, by simp [q2], q3⟩
theorem mem_filterB {α : Type} {f : α → Bool} : ∀ {l : List α} {x : α}, x ∈ filterB f l → x ∈ l
  | [], _, h => h
  | a :: l, x, h => by
    simp only [filterB] at h
    split at h
    · rcases List.mem_cons.1 h with rfl | h
      · simp
      · exact List.mem_cons_of_mem _ (mem_filterB h)
    · exact List.mem_cons_of_mem _ (mem_filterB h)
theorem allB_all {α : Type} {f : α → Bool} : ∀ {l : List α}, allB f l = true → ∀ x ∈ l, f x = true
  | [], _, x, hx => by simp at hx
  | a :: l, h, x, hx => by
    simp only [allB] at h
    split at h
    · rename_i ha
      rcases List.mem_cons.1 hx with rfl | hx
      · exact ha
      · exact allB_all h x hx
    · cases h
theorem rechecks_ok {E : Tr AV} {H : Heap} : ∀ {l : List DOp}, (∀ x ∈ l, (recheck P ops x).run E H = true) → (rechecks P ops l).run E H = true
  | [], _ => rfl
  | x :: l, h => by
    simp only [rechecks]
    rw [h x (by simp)]
    exact rechecks_ok (fun y hy => h y (by simp [hy]))

structure Pend (P : Program) (n : Nat) (ops : Array Oper) (x : DOp) : Prop where
  cls : x.c = .rd ∨ x.c = .al
  own : ownDst ops x = true

theorem drawGo_ok : ∀ {l pend : List DOp} {items : List (LI × List (LI × Bool))} {c : Cx} {G : LHeap} {ρ : LEnv} {E : Tr AV} {K : LEnv → LHeap → Prop}, resGo P n ops l pend = some (rdr items) → (items.all fun x => x.1.o.ok && x.2.all (·.1.o.ok)) = true →
    HSim c G → EnvL c ρ E → (∀ x ∈ pend, Pend P n ops x ∧ Valid P ops x E c.H) → DrL P items ρ G K →
    ∃ m E' c' ρ' G', (drawGo P n ops l pend).run (callA P (OL P) m) E c.H = .ok E' c'.H ∧ HSim c' G' ∧ Step c G c' G' ∧ EnvL c' ρ' E' ∧ K ρ' G'
  | [], pend, items, c, G, ρ, E, K, h, _, hs, hE, _, k => by
    cases items with
    | nil => exact ⟨0, E, c, ρ, G, rfl, hs, .refl c G, hE, k⟩
    | cons _ _ => cases h
  | x :: l, pend, items, c, G, ρ, E, K, h, hok, hs, hE, hp, k => by
    simp only [resGo] at h
    split at h
    · cases h
    · rename_i hchk
      rw [Bool.and_eq_true] at hchk
      obtain ⟨hoff, hcls⟩ := hchk
      split at h
      · cases h
      · rename_i r hr
        -- what the item comes to
        have head : ∀ {li : LI} {cs : List (LI × Bool)} {its : List (LI × List (LI × Bool))}, r = li.r → items = (li, cs) :: its →
            ∃ m E1 c1 ρ1 G1 v, (compOper P n ops x.o).run (callA P (OL P) m) E c.H = .ok E1 c1.H ∧ E1 = putE x.o.dst v E ∧ HSim c1 G1 ∧ Step c G c1 G1 ∧ EnvL c1 ρ1 E1 ∧ cksL ρ G G1 cs ∧ DrL P its ρ1 G1 K := by
          intro li cs its e1 e2
          subst e2
          simp only [List.all_cons, Bool.and_eq_true] at hok
          obtain ⟨m, E1, c1, ρ1, G1, q1, q2, q3, q4, q5, q6⟩ := ItL_ok hs hE hok.1.1 (show ItL P li ρ G (fun ρ' G' => cksL ρ G G' cs ∧ DrL P its ρ' G' K) from k)
          rw [← e1, ← compOper_res hr] at q1
          obtain ⟨v, w1, _⟩ := compOper_shape q1
          exact ⟨m, E1, c1, ρ1, G1, v, q1, w1, q2, q3, q4, q5, q6⟩
        have keepE : ∀ {v : AV}, ∀ y ∈ pend, Valid P ops y E c.H → Valid P ops y (putE x.o.dst v E) c.H := fun y hy hv => hv.put (allB_all hoff y hy) _
        -- going on behind it
        have go : ∀ {pend' : List DOp} {its : List (LI × List (LI × Bool))} {m : Nat} {E1 : Tr AV} {c1 : Cx} {ρ1 : LEnv} {G1 : LHeap}, resGo P n ops l pend' = some (rdr its) → (its.all fun x => x.1.o.ok && x.2.all (·.1.o.ok)) = true → HSim c1 G1 → Step c G c1 G1 → EnvL c1 ρ1 E1 →
            (∀ y ∈ pend', Pend P n ops y ∧ Valid P ops y E1 c1.H) → DrL P its ρ1 G1 K → (compOper P n ops x.o).run (callA P (OL P) m) E c.H = .ok E1 c1.H →
            ∃ m' E' c' ρ' G', (compOper P n ops x.o).run (callA P (OL P) m') E c.H = .ok E1 c1.H ∧ (drawGo P n ops l pend').run (callA P (OL P) m') E1 c1.H = .ok E' c'.H ∧ HSim c' G' ∧ Step c G c' G' ∧ EnvL c' ρ' E' ∧ K ρ' G' := by
          intro pend' its m E1 c1 ρ1 G1 a1 a2 a3 a4 a5 a6 a7 a8
          obtain ⟨m2, E', c', ρ', G', b1, b2, b3, b4, b5⟩ := drawGo_ok a1 a2 a3 a5 a6 a7
          exact ⟨max m m2, E', c', ρ', G', compOper_mono (callA_mono (Nat.le_max_left m m2)) a8, drawGo_mono (callA_mono (Nat.le_max_right m m2)) b1, b2, .trans hs a3 a4 b3, b4, b5⟩
        cases hx : x.c with
        | quiet =>
          rw [hx] at h
          dsimp only at h
          split at h
          · cases h
          · rename_i rs hrs
            cases items with
            | nil => cases h
            | cons it its =>
              obtain ⟨li, cs⟩ := it
              simp only [rdr, Option.some.injEq, List.cons.injEq, Prod.mk.injEq] at h
              obtain ⟨⟨h1, h2⟩, h3⟩ := h
              obtain ⟨m, E1, c1, ρ1, G1, v, q1, q2, q3, q4, q5, q6, q7⟩ := head h1 rfl
              simp only [List.all_cons, Bool.and_eq_true] at hok
              have hH : c1.H = c.H := by
                have hc : cls P x.o.op = .quiet := by
                  rw [hx] at hcls
                  cases hq : cls P x.o.op <;> rw [hq] at hcls <;> first | rfl | cases hcls
                exact compOper_reads (cls_spec.1 hc).reads q1
              obtain ⟨m', E', c', ρ', G', b1, b2, b3, b4, b5, b6⟩ := go (pend' := pend) (by rw [← h3]; exact hrs) hok.2 q3 q4 q5 (fun y hy => ⟨(hp y hy).1, by rw [hH, q2]; exact keepE y hy (hp y hy).2⟩) q7 q1
              refine ⟨m', E', c', ρ', G', ?_, b3, b4, b5, b6⟩
              simp only [drawGo]
              rw [hx]
              dsimp only
              rw [b1]
              exact b2
        | rd =>
          rw [hx] at h
          dsimp only at h
          split at h
          · cases h
          · rename_i hown
            split at h
            · cases h
            · rename_i rs hrs
              cases items with
              | nil => cases h
              | cons it its =>
                obtain ⟨li, cs⟩ := it
                simp only [rdr, Option.some.injEq, List.cons.injEq, Prod.mk.injEq] at h
                obtain ⟨⟨h1, h2⟩, h3⟩ := h
                obtain ⟨m, E1, c1, ρ1, G1, v, q1, q2, q3, q4, q5, q6, q7⟩ := head h1 rfl
                simp only [List.all_cons, Bool.and_eq_true] at hok
                have hc : cls P x.o.op = .rd := by
                  rw [hx] at hcls
                  cases hq : cls P x.o.op <;> rw [hq] at hcls <;> first | rfl | cases hcls
                have hH : c1.H = c.H := compOper_reads (cls_spec.2 hc) q1
                have hself : Valid P ops x E1 c1.H := by
                  unfold Valid
                  rw [hx]
                  intro g
                  unfold ownDst at hown
                  cases hdst : x.o.dst with
                  | none => rw [hdst] at hown; cases hown
                  | some d =>
                    rw [hdst] at hown
                    have hm : memN d (looks ops x.o) = false := by simpa using hown
                    have hsame : Same (looks ops x.o) E1 E := fun t ht _ => by
                      rw [q2, hdst]
                      show getP (pathOf t) (setP v (pathOf d) E) = _
                      rw [get_set_ne (fun q => memN_spec hm (by rw [← q]; exact ht))]
                    rw [guardF_cong hsame] at g
                    refine ⟨d, v, rfl, by rw [q2, hdst]; exact get_putE _ _ _, ?_⟩
                    rw [compOp_cong' hsame, hH]
                    have hq := q1
                    unfold compOper at hq
                    cases hpf : putF n x.o.dst with
                    | none => rw [hpf] at hq; cases hq
                    | some pf =>
                      rw [hpf] at hq
                      dsimp only at hq
                      rw [g] at hq
                      dsimp only at hq
                      have hrd := (cls_spec.2 hc) E c.H
                      cases hr2 : (compOp P x.o.op).run E c.H with
                      | no => rw [hr2] at hq; cases hq
                      | call t a => rw [hr2] at hrd; cases hrd
                      | val w H2 =>
                        rw [hr2] at hq hrd
                        cases hrd
                        injection hq with e1 e2
                        have := congrArg (fun E => getP (pathOf d) E) e1
                        rw [q2, (putF_spec hpf).1, hdst, get_putE, get_putE] at this
                        cases this
                        rfl
                obtain ⟨m', E', c', ρ', G', b1, b2, b3, b4, b5, b6⟩ := go (pend' := x :: pend) (by rw [← h3]; exact hrs) hok.2 q3 q4 q5 (fun y hy => by
                  rcases List.mem_cons.1 hy with rfl | hy
                  · exact ⟨⟨.inl hx, hown⟩, hself⟩
                  · exact ⟨(hp y hy).1, by rw [hH, q2]; exact keepE y hy (hp y hy).2⟩) q7 q1
                refine ⟨m', E', c', ρ', G', ?_, b3, b4, b5, b6⟩
                simp only [drawGo]
                rw [hx]
                dsimp only
                rw [b1]
                exact b2
        | al =>
          rw [hx] at h
          dsimp only at h
          split at h
          · cases h
          · rename_i hown
            split at h
            · cases h
            · rename_i cs' hcs
              split at h
              · cases h
              · rename_i rs hrs
                cases items with
                | nil => cases h
                | cons it its =>
                  obtain ⟨li, cs⟩ := it
                  simp only [rdr, Option.some.injEq, List.cons.injEq, Prod.mk.injEq] at h
                  obtain ⟨⟨h1, h2⟩, h3⟩ := h
                  obtain ⟨m, E1, c1, ρ1, G1, v, q1, q2, q3, q4, q5, q6, q7⟩ := head h1 rfl
                  simp only [List.all_cons, Bool.and_eq_true] at hok
                  have hc : cls P x.o.op = .al := by
                    rw [hx] at hcls
                    cases hq : cls P x.o.op <;> rw [hq] at hcls <;> first | rfl | cases hcls
                  rw [h2] at hcs
                  have hold : ∀ y ∈ pend, Pend P n ops y ∧ Valid P ops y E1 c1.H := fun y hy => by
                    obtain ⟨li', w1, w2, w3⟩ := cks_mem hcs q6 y hy
                    have hliok : li'.o.ok = true := List.all_eq_true.1 hok.1.2 _ w2
                    refine ⟨(hp y hy).1, ?_⟩
                    rw [q2]
                    exact ((hp y hy).2.keep w1 hliok hs hE q4 w3).put (allB_all hoff y hy) _
                  have hself : Valid P ops x E1 c1.H := by
                    unfold Valid
                    rw [hx]
                    intro g
                    unfold ownDst at hown
                    cases hdst : x.o.dst with
                    | none => rw [hdst] at hown; cases hown
                    | some d =>
                      rw [hdst] at hown
                      have hm : memN d (looks ops x.o) = false := by simpa using hown
                      have hsame : Same (looks ops x.o) E1 E := fun t ht _ => by
                        rw [q2, hdst]
                        show getP (pathOf t) (setP v (pathOf d) E) = _
                        rw [get_set_ne (fun q => memN_spec hm (by rw [← q]; exact ht))]
                      rw [guardF_cong hsame] at g
                      have hq := q1
                      unfold compOper at hq
                      cases hpf : putF n x.o.dst with
                      | none => rw [hpf] at hq; cases hq
                      | some pf =>
                        rw [hpf] at hq
                        dsimp only at hq
                        rw [g] at hq
                        dsimp only at hq
                        cases hr2 : (compOp P x.o.op).run E c.H with
                        | no => rw [hr2] at hq; cases hq
                        | call t a =>
                          exfalso
                          have := cls_mk (o := x.o) hc E c.H
                          rw [hr2] at this
                          exact this
                        | val w H2 =>
                          rw [hr2] at hq
                          injection hq with e1 e2
                          have := congrArg (fun E => getP (pathOf d) E) e1
                          rw [q2, (putF_spec hpf).1, hdst, get_putE, get_putE] at this
                          cases this
                          obtain ⟨ob, u1, u2, u3⟩ := al_any hc hr2
                          refine ⟨d, _, c.H.next, ob, rfl, by rw [q2, hdst]; exact get_putE _ _ _, u2, ?_, fun H3 => by rw [compOp_cong' hsame]; exact u3 H3⟩
                          rw [← e2, u1]
                          exact Heap.get_push_same _ _
                  obtain ⟨m', E', c', ρ', G', b1, b2, b3, b4, b5, b6⟩ := go (pend' := x :: pend) (by rw [← h3]; exact hrs) hok.2 q3 q4 q5 (fun y hy => by
                    rcases List.mem_cons.1 hy with rfl | hy
                    · exact ⟨⟨.inr hx, hown⟩, hself⟩
                    · exact hold y hy) q7 q1
                  refine ⟨m', E', c', ρ', G', ?_, b3, b4, b5, b6⟩
                  simp only [drawGo]
                  rw [hx]
                  dsimp only
                  rw [b1]
                  dsimp only
                  rw [rechecks_ok (fun y hy => by
                    rcases List.mem_cons.1 hy with rfl | hy
                    · exact valid_recheck hself (.inr hx) hown
                    · exact valid_recheck (hold y hy).2 (hold y hy).1.cls (hold y hy).1.own)]
                  exact b2
        | ch =>
          rw [hx] at h
          dsimp only at h
          split at h
          · cases h
          · rename_i cs' hcs
            split at h
            · cases h
            · rename_i rs hrs
              cases items with
              | nil => cases h
              | cons it its =>
                obtain ⟨li, cs⟩ := it
                simp only [rdr, Option.some.injEq, List.cons.injEq, Prod.mk.injEq] at h
                obtain ⟨⟨h1, h2⟩, h3⟩ := h
                obtain ⟨m, E1, c1, ρ1, G1, v, q1, q2, q3, q4, q5, q6, q7⟩ := head h1 rfl
                simp only [List.all_cons, Bool.and_eq_true] at hok
                rw [h2] at hcs
                have hold : ∀ y ∈ filterB (fun y => !(Nat.testBit x.m y.i)) pend, Pend P n ops y ∧ Valid P ops y E1 c1.H := fun y hy => by
                  have hy' := mem_filterB hy
                  obtain ⟨li', w1, w2, w3⟩ := cks_mem hcs q6 y hy
                  have hliok : li'.o.ok = true := List.all_eq_true.1 hok.1.2 _ w2
                  refine ⟨(hp y hy').1, ?_⟩
                  rw [q2]
                  exact ((hp y hy').2.keep w1 hliok hs hE q4 w3).put (allB_all hoff y hy') _
                obtain ⟨m', E', c', ρ', G', b1, b2, b3, b4, b5, b6⟩ := go (pend' := filterB (fun y => !(Nat.testBit x.m y.i)) pend) (by rw [← h3]; exact hrs) hok.2 q3 q4 q5 hold q7 q1
                refine ⟨m', E', c', ρ', G', ?_, b3, b4, b5, b6⟩
                simp only [drawGo]
                rw [hx]
                dsimp only
                rw [b1]
                dsimp only
                rw [rechecks_ok (fun y hy => valid_recheck (hold y hy).2 (hold y hy).1.cls (hold y hy).1.own)]
                exact b2
end draw

section rule
variable {P : Program} {f n : Nat} {ro : Option Nat} {ρ : LEnv} {D : List Nat} {G : LHeap} {Q : Post}
theorem W_draw {l : List (LI × List (LI × Bool))} (h : DrL P l ρ G fun ρ' G' => Q .normal ρ' D G') : W P f n (.draw l) ro ρ D G Q := by
  intro code c E D1 ro1 h1 h2 h3 h4 h5 h6
  obtain ⟨id, ops, rfl, hr⟩ := inv_draw h1
  unfold resDraw at hr
  dsimp only at hr
  split at hr
  · rename_i hd
    obtain ⟨m, E', c', ρ', G', q1, q2, q3, q4, q5⟩ := drawGo_ok hr h2 h3 h4 (fun x hx => by simp at hx) h
    refine ⟨m, .normal, E', D1, c', ρ', D, G', ?_, q2, q3, q4, h5.mono q3.le, q5⟩
    simp only [compCode, compDraw]
    rw [hd]
    dsimp only
    rw [q1]
  · cases hr
end rule
end Go.Sv
/- The logic's calls of functions that have a contract. -/
namespace Go.Sv

/-! ### Values that lead to no object of the caller's -/
mutual
def LV.dat : LV → Bool
  | .any => true
  | .bool _ | .u _ | .b _ | .i _ | .int _ _ | .str _ | .nilPtr | .nilSl | .nilMap | .nilFn | .nilIf => true
  | .cptr l _ => dats l
  | .lst l _ _ => dats l
  | .fn (.func _) l r => dats l && dats r
  | .iface _ v => v.dat
  | .agg l => dats l
  | .tup l => dats l
  | _ => false
def dats : List LV → Bool
  | [] => true
  | v :: l => v.dat && dats l
end

mutual
theorem AR.dat {c c' : Cx} (hfz : ∀ o, c.Fz o → c'.Fz o ∧ c'.H.get o = c.H.get o) (v : LV) (a : AV) (hd : v.dat = true) (h : AR c v a) : AR c' v a := by
  cases v with
  | cptr l i =>
    simp only [LV.dat] at hd
    cases h with
    | cptr hf hr hl => exact .cptr (hfz _ hf).1 (by rw [readAt_congr (hfz _ hf).2]; exact hr) (ARs.dat hfz l _ hd hl)
  | lst l len esz =>
    simp only [LV.dat] at hd
    cases h with
    | lst hf hrm hlen hr hl => exact .lst (hfz _ hf).1 hrm hlen (by rw [readAt_congr (hfz _ hf).2]; exact hr) (ARs.dat hfz l _ hd hl)
    | lstNil => exact .lstNil
    | lstEmp => exact .lstEmp
  | fn f l r =>
    cases f with
    | func f =>
      simp only [LV.dat, Bool.and_eq_true] at hd
      cases h with
      | fn hl hr => exact .fn (ARs.dat hfz l _ hd.1 hl) (ARs.dat hfz r _ hd.2 hr)
    | _ => simp [LV.dat] at hd
  | iface t w =>
    simp only [LV.dat] at hd
    cases h with
    | iface h => exact .iface (AR.dat hfz w _ hd h)
  | agg l =>
    simp only [LV.dat] at hd
    cases h with
    | agg h => exact .agg (ARs.dat hfz l _ hd h)
  | tup l =>
    simp only [LV.dat] at hd
    cases h with
    | tup h => exact .tup (ARs.dat hfz l _ hd h)
  | any => exact .any a
  | _ => first | (simp only [LV.dat] at hd; cases hd; done) | (cases h; constructor)
termination_by SizeOf.sizeOf v
theorem ARs.dat {c c' : Cx} (hfz : ∀ o, c.Fz o → c'.Fz o ∧ c'.H.get o = c.H.get o) (l : List LV) (r : List AV) (hd : dats l = true) (h : ARs c l r) : ARs c' l r := by
  cases l with
  | nil => cases h; exact .nil
  | cons v l =>
    simp only [dats, Bool.and_eq_true] at hd
    cases h with
    | cons e es => exact .cons (AR.dat hfz v _ hd.1 e) (ARs.dat hfz l _ hd.2 es)
termination_by SizeOf.sizeOf l
end

theorem dats_app : ∀ {l r : List LV}, dats l = true → dats r = true → dats (l ++ r) = true
  | [], _, _, h => h
  | v :: l, r, h, k => by
    simp only [dats, Bool.and_eq_true] at h
    simp only [List.cons_append, dats, Bool.and_eq_true]
    exact ⟨h.1, dats_app h.2 k⟩
theorem dats_take : ∀ {l : List LV} (n : Nat), dats l = true → dats (l.take n) = true
  | _, 0, _ => by simp [dats]
  | [], n + 1, _ => by simp [dats]
  | v :: l, n + 1, h => by
    simp only [dats, Bool.and_eq_true] at h
    simp only [List.take_succ_cons, dats, Bool.and_eq_true]
    exact ⟨h.1, dats_take n h.2⟩
theorem dats_drop : ∀ {l : List LV} (n : Nat), dats l = true → dats (l.drop n) = true
  | _, 0, h => h
  | [], n + 1, _ => by simp [dats]
  | v :: l, n + 1, h => by
    simp only [dats, Bool.and_eq_true] at h
    simp only [List.drop_succ_cons]
    exact dats_drop n h.2
theorem dats_map {α : Type} {f : α → LV} (h : ∀ a, (f a).dat = true) : ∀ l : List α, dats (l.map f) = true
  | [] => rfl
  | a :: l => by simp only [List.map_cons, dats, Bool.and_eq_true]; exact ⟨h a, dats_map h l⟩

/-! ### What a call is handed: rows by what stands in them -/
mutual
def bor (G : LHeap) : LV → LV → Prop
  | .dy p k, d => ∃ l len esz st, d = .lst l len esz ∧ G[p]? = some (.dyn l len esz k st) ∧ dats l = true
  | .vw p k lo len, d => ∃ l len0 esz st, d = .lst ((l.drop (lo * esz)).take (len * esz)) len esz ∧ G[p]? = some (.dyn l len0 esz k st) ∧ lo * esz + len * esz ≤ l.length ∧ dats l = true
  | .nilSl, d => d = .nilSl ∨ ∃ esz, d = .lst [] 0 esz
  | .agg l, d => ∃ r, d = .agg r ∧ bors G l r
  | v, d => d = v ∧ v.dat = true
def bors (G : LHeap) : List LV → List LV → Prop
  | [], r => r = []
  | v :: l, r => ∃ d r', r = d :: r' ∧ bor G v d ∧ bors G l r'
end

section calls
variable {P : Program} {c : Cx} {G : LHeap}

theorem bor_dat {v d : LV} {a : AV} (hb : d = v ∧ v.dat = true) (h : AR c v a) : AR ⟨[], fun o => c.Fz o ∨ Own c G o, c.H⟩ d a := by
  obtain ⟨rfl, hd⟩ := hb
  exact AR.dat (c' := ⟨[], fun o => c.Fz o ∨ Own c G o, c.H⟩) (fun o ho => ⟨Or.inl ho, rfl⟩) d a hd h
mutual
theorem bor_ok (hs : HSim c G) (v d : LV) (a : AV) (hb : bor G v d) (h : AR c v a) : AR ⟨[], fun o => c.Fz o ∨ Own c G o, c.H⟩ d a := by
  cases v with
  | dy p k =>
    simp only [bor] at hb
    obtain ⟨l, len, esz, st, rfl, hg, hd⟩ := hb
    cases h with
    | @dy _ _ k' hh _ e hk ha _ =>
      have hob := hs.obj p _ _ _ hg e
      obtain ⟨r0, r1, r2⟩ := hob
      have hha := ha (by omega)
      rcases r2 with ⟨r2, r3⟩ | ⟨o, v, room, t, clen, l', r2, r3, r4, r5, r6, r7, r8⟩
      · subst r3
        have : l = [] := List.eq_nil_of_length_eq_zero (by simpa using r1)
        subst this
        rw [hha, r2]; exact .lstNil
      · have hl' : l'.length = len * esz := by rw [← r6.length]; exact r1
        have hr := readAt_of (i := 0) (n := len * esz) r3 r5 r4 (by omega)
        rw [List.drop_zero, List.take_of_length_le (by omega)] at hr
        rw [hha, r2]
        exact .lst (.inr ⟨p, _, _, _, hg, rfl, e, by rw [r2]; rfl⟩) (fun r e => (r7 r e).2) r1 hr (ARs.dat (c' := ⟨[], fun o => c.Fz o ∨ Own c G o, c.H⟩) (fun o ho => ⟨Or.inl ho, rfl⟩) l l' hd r6)
  | vw p k lo len =>
    simp only [bor] at hb
    obtain ⟨l, len0, esz, st, rfl, hg, hle, hd⟩ := hb
    cases h with
    | @vw _ _ _ _ k' hh _ e hk ha _ _ =>
      have hkv := (hs.obj p _ _ _ hg e).1
      rcases ha (by omega) with ⟨r3, r4⟩ | ⟨o, v, len', esz', room, room', r3, r4, r9⟩
      · subst r3
        simp only [Nat.zero_mul, List.take_zero]
        rcases r4 with rfl | ⟨rfl, _⟩
        · exact .lstNil
        · exact .lstEmp
      · have e2 := e
        rw [r3] at e2
        obtain ⟨_, q1, q2, q3, t, clen, l', q4, q5, q6, q7, _⟩ := dyn_at hs hg e2
        subst q2 q3
        have hr := readAt_of (i := lo * esz') (n := len * esz') q4 q6 q5 (by omega)
        rw [r4]
        refine .lst (.inr ⟨p, _, _, _, hg, rfl, e, by rw [r3]; rfl⟩) r9 (by simp; omega) hr ?_
        exact ((ARs.dat (c' := ⟨[], fun o => c.Fz o ∨ Own c G o, c.H⟩) (fun o ho => ⟨Or.inl ho, rfl⟩) l l' hd q7).drop _).take _
  | nilSl =>
    simp only [bor] at hb
    cases h
    rcases hb with rfl | ⟨esz, rfl⟩
    · exact .nilSl
    · exact .lstNil
  | agg l =>
    simp only [bor] at hb
    obtain ⟨r, rfl, hb⟩ := hb
    cases h with
    | agg h => exact .agg (bors_ok hs l r _ hb h)
  | _ => exact bor_dat (by simpa only [bor] using hb) h
termination_by SizeOf.sizeOf v
theorem bors_ok (hs : HSim c G) (l r : List LV) (as : List AV) (hb : bors G l r) (h : ARs c l as) : ARs ⟨[], fun o => c.Fz o ∨ Own c G o, c.H⟩ r as := by
  cases l with
  | nil => simp only [bors] at hb; subst hb; cases h; exact .nil
  | cons v l =>
    simp only [bors] at hb
    obtain ⟨d, r', rfl, hb1, hb2⟩ := hb
    cases h with
    | cons e es => exact .cons (bor_ok hs v d _ hb1 e) (bors_ok hs l r' _ hb2 es)
termination_by SizeOf.sizeOf l
end

/-! ### What a call gives -/
mutual
/-- What is handed back becomes the caller's. -/
def shV (n : Nat) : LV → LV
  | .dy j k => .dy (n + j) k
  | .agg l => .agg (shVs n l)
  | .tup l => .tup (shVs n l)
  | v => v
def shVs (n : Nat) : List LV → List LV
  | [] => []
  | v :: l => shV n v :: shVs n l
end
mutual
/-- What is handed back is looked at alone. -/
def frV (G0 : LHeap) : LV → LV
  | .dy j _ => match G0[j]? with
    | some (.dyn l len esz _ _) => .lst l len esz
    | _ => .any
  | .agg l => .agg (frVs G0 l)
  | .tup l => .tup (frVs G0 l)
  | v => v
def frVs (G0 : LHeap) : List LV → List LV
  | [] => []
  | v :: l => frV G0 v :: frVs G0 l
end
mutual
theorem sh_AR {c0 c' : Cx} {n m : Nat} (h : ∀ j a, j < m → AR c0 (.dy j 0) a → AR c' (.dy (n + j) 0) a) (v : LV) (a : AV) (hs : v.sim m = true) (ha : AR c0 v a) : AR c' (shV n v) a := by
  cases v with
  | dy j k =>
    simp only [LV.sim, Bool.and_eq_true, beq_iff_eq, decide_eq_true_eq] at hs
    obtain ⟨rfl, hj⟩ := hs
    exact h j a hj ha
  | agg l =>
    simp only [LV.sim] at hs
    cases ha with
    | agg ha => simp only [shV]; exact .agg (sh_ARs h l _ hs ha)
  | tup l =>
    simp only [LV.sim] at hs
    cases ha with
    | tup ha => simp only [shV]; exact .tup (sh_ARs h l _ hs ha)
  | _ => first | (simp only [LV.sim] at hs; cases hs; done) | (simp only [shV]; cases ha; constructor)
termination_by SizeOf.sizeOf v
theorem sh_ARs {c0 c' : Cx} {n m : Nat} (h : ∀ j a, j < m → AR c0 (.dy j 0) a → AR c' (.dy (n + j) 0) a) (l : List LV) (r : List AV) (hs : sims m l = true) (ha : ARs c0 l r) : ARs c' (shVs n l) r := by
  cases l with
  | nil => cases ha; simp only [shVs]; exact .nil
  | cons v l =>
    simp only [sims, Bool.and_eq_true] at hs
    cases ha with
    | cons e es => simp only [shVs]; exact .cons (sh_AR h v _ hs.1 e) (sh_ARs h l _ hs.2 es)
termination_by SizeOf.sizeOf l
end
mutual
theorem fr_AR {c0 c' : Cx} {G0 : LHeap} (h : ∀ j a, j < G0.length → AR c0 (.dy j 0) a → AR c' (frV G0 (.dy j 0)) a) (v : LV) (a : AV) (hs : v.sim G0.length = true) (ha : AR c0 v a) : AR c' (frV G0 v) a := by
  cases v with
  | dy j k =>
    simp only [LV.sim, Bool.and_eq_true, beq_iff_eq, decide_eq_true_eq] at hs
    obtain ⟨rfl, hj⟩ := hs
    exact h j a hj ha
  | agg l =>
    simp only [LV.sim] at hs
    cases ha with
    | agg ha => simp only [frV]; exact .agg (fr_ARs h l _ hs ha)
  | tup l =>
    simp only [LV.sim] at hs
    cases ha with
    | tup ha => simp only [frV]; exact .tup (fr_ARs h l _ hs ha)
  | _ => first | (simp only [LV.sim] at hs; cases hs; done) | (simp only [frV]; cases ha; constructor)
termination_by SizeOf.sizeOf v
theorem fr_ARs {c0 c' : Cx} {G0 : LHeap} (h : ∀ j a, j < G0.length → AR c0 (.dy j 0) a → AR c' (frV G0 (.dy j 0)) a) (l : List LV) (r : List AV) (hs : sims G0.length l = true) (ha : ARs c0 l r) : ARs c' (frVs G0 l) r := by
  cases l with
  | nil => cases ha; simp only [frVs]; exact .nil
  | cons v l =>
    simp only [sims, Bool.and_eq_true] at hs
    cases ha with
    | cons e es => simp only [frVs]; exact .cons (fr_AR h v _ hs.1 e) (fr_ARs h l _ hs.2 es)
termination_by SizeOf.sizeOf l
end

/-- A call whose rows are looked at alone. -/
theorem CallL_F {f : Nat} {args dargs : List LV} {v0 : LV} {G0 : LHeap} {K : LV → LHeap → Prop} (hc : FnS P f dargs v0 G0) (hb : bors G args dargs) (k : K (frV G0 v0) G) : CallL P (.fn f) args G K := by
  obtain ⟨ht, hsim, hG, hrun⟩ := hc
  refine ⟨ht, fun c t1 args1 hs htr ha => ?_⟩
  cases t1 with
  | yield o => exact htr.elim
  | fn g =>
    obtain rfl : f = g := htr
    obtain ⟨m, v1, hd', H', q1, q2, q3, q4, q5, q6⟩ := hrun (fun o => c.Fz o ∨ Own c G o) c.H args1 (fun o ho => ho.elim (hs.fz o) (hs.lt o)) (bors_ok hs args dargs args1 hb ha)
    have hle : CxLe c ⟨c.hd, fun o => c.Fz o ∨ Own ⟨hd', fun o => c.Fz o ∨ Own c G o, H'⟩ G0 o, H'⟩ := ⟨fun p k h e => ⟨k, h, e, Nat.le_refl _, fun _ => rfl, fun _ => rfl⟩, fun o ho => ⟨.inl ho, q5 o (hs.fz o ho)⟩⟩
    have hown : ∀ o, Own ⟨c.hd, fun o => c.Fz o ∨ Own ⟨hd', fun o => c.Fz o ∨ Own c G o, H'⟩ G0 o, H'⟩ G o → Own c G o := fun o ⟨p, ob, k, h, e1, e2, e3, e4⟩ => ⟨p, ob, k, h, e1, e2, e3, e4⟩
    refine ⟨m, v1, H', q1, ⟨c.hd, fun o => c.Fz o ∨ Own ⟨hd', fun o => c.Fz o ∨ Own c G o, H'⟩ G0 o, H'⟩, frV G0 v0, G, rfl, ?_, ?_, ?_, k⟩
    · refine ⟨hs.len, fun o ho => ?_, fun o ho => Nat.lt_of_lt_of_le (hs.lt o (hown o ho)) q4, fun o ho hf => ?_, fun p ob k h e1 e2 => ?_, fun p q ob ob' k h k' h' o e1 e2 e3 e4 e5 e6 e7 e8 => hs.excl p q ob ob' k h k' h' o e1 e2 e3 e4 e5 e6 e7 e8⟩
      · rcases ho with ho | ho
        · exact Nat.lt_of_lt_of_le (hs.fz o ho) q4
        · exact q2.lt o ho
      · rcases hf with hf | hf
        · exact hs.sep o (hown o ho) hf
        · have := q6 o hf; have := hs.lt o (hown o ho); omega
      · by_cases hl : ob.live = true
        · exact (hs.obj p ob k h e1 e2).mono hle (fun o ho => q5 o (hs.lt o ⟨p, ob, k, h, e1, hl, e2, ho⟩))
        · cases ob <;> first | exact absurd rfl hl | trivial
    · refine ⟨hle, q4, fun o ho _ => q5 o ho, fun o ho => .inl (hown o ho), fun o ho => ho.elim .inl (fun h => .inr (.inr (q6 o h))), fun p ob ob' e1 e2 => ?_, fun p ob ob' k h o e1 e2 e3 e4 e5 e6 => ?_⟩
      · rw [e1] at e2; cases e2; exact Nat.le_refl _
      · rw [e1] at e2; cases e2
        have hl : ob.live = true := by cases ob <;> first | rfl | cases e5
        exact ⟨rfl, q5 o (hs.lt o ⟨p, ob, k, h, e1, hl, e3, e4⟩), rfl⟩
    · refine fr_AR (fun j a hj h => ?_) v0 v1 hsim q3
      obtain ⟨l, len, esz, hob, hsc⟩ := hG j _ (List.getElem?_eq_getElem hj)
      have hg : G0[j]? = some (.dyn l len esz 0 0) := by rw [List.getElem?_eq_getElem hj, hob]
      simp only [frV]
      rw [hg]
      dsimp only
      cases h with
      | @dy _ _ k' hh _ e hk ha _ =>
        obtain ⟨r0, r1, r2⟩ := q2.obj j _ _ _ hg e
        have hha := ha (by omega)
        rcases r2 with ⟨r2, r3⟩ | ⟨o, v, room, t, clen, l', r2, r3, r4, r5, r6, r7, r8⟩
        · subst r3
          have : l = [] := List.eq_nil_of_length_eq_zero (by simpa using r1)
          subst this
          rw [hha, r2]; exact .lstNil
        · have hl' : l'.length = len * esz := by rw [← r6.length]; exact r1
          have hr := readAt_of (i := 0) (n := len * esz) r3 r5 r4 (by omega)
          rw [List.drop_zero, List.take_of_length_le (by omega)] at hr
          rw [hha, r2]
          exact .lst (.inr ⟨j, _, _, _, hg, rfl, e, by rw [r2]; rfl⟩) (fun r e => (r7 r e).2) r1 hr (scals_any hsc r6)

/-- A call whose rows become the caller's. -/
theorem CallL_S {f : Nat} {args dargs : List LV} {v0 : LV} {G0 : LHeap} {K : LV → LHeap → Prop} (hc : FnS P f dargs v0 G0) (hb : bors G args dargs) (k : K (shV G.length v0) (G ++ G0)) : CallL P (.fn f) args G K := by
  obtain ⟨ht, hsim, hG, hrun⟩ := hc
  refine ⟨ht, fun c t1 args1 hs htr ha => ?_⟩
  cases t1 with
  | yield o => exact htr.elim
  | fn g =>
    obtain rfl : f = g := htr
    obtain ⟨m, v1, hd', H', q1, q2, q3, q4, q5, q6⟩ := hrun (fun o => c.Fz o ∨ Own c G o) c.H args1 (fun o ho => ho.elim (hs.fz o) (hs.lt o)) (bors_ok hs args dargs args1 hb ha)
    have hhd : ∀ (p k : Nat) (h : AV), c.hd[p]? = some (k, h) → (c.hd ++ hd')[p]? = some (k, h) := fun p k h e => by
      rw [List.getElem?_append_left (List.getElem?_eq_some_iff.1 e).1]; exact e
    have hle : CxLe c ⟨c.hd ++ hd', c.Fz, H'⟩ := ⟨fun p k h e => ⟨k, h, hhd p k h e, Nat.le_refl _, fun _ => rfl, fun _ => rfl⟩, fun o ho => ⟨ho, q5 o (hs.fz o ho)⟩⟩
    have hlen' : hd'.length = G0.length := q2.len
    have hinv : ∀ (p : Nat) (k : Nat) (h : AV) (ob' : LObj), (c.hd ++ hd')[p]? = some (k, h) → (G ++ G0)[p]? = some ob' → (c.hd[p]? = some (k, h) ∧ G[p]? = some ob') ∨ (G.length ≤ p ∧ hd'[p - G.length]? = some (k, h) ∧ G0[p - G.length]? = some ob') := by
      intro p k h ob' e1 e2
      by_cases hp : p < G.length
      · rw [List.getElem?_append_left hp] at e2
        rw [List.getElem?_append_left (by rw [hs.len]; exact hp)] at e1
        exact .inl ⟨e1, e2⟩
      · rw [List.getElem?_append_right (by omega)] at e2
        rw [List.getElem?_append_right (by rw [hs.len]; omega), hs.len] at e1
        exact .inr ⟨by omega, e1, e2⟩
    have hownG : ∀ (p k : Nat) (h : AV) (ob : LObj) (o : Nat), hd'[p]? = some (k, h) → G0[p]? = some ob → ob.live = true → idOf h = some o → Own ⟨hd', fun o => c.Fz o ∨ Own c G o, H'⟩ G0 o := fun p k h ob o e1 e2 e3 e4 => ⟨p, ob, k, h, e2, e3, e1, e4⟩
    have hown : ∀ o, Own ⟨c.hd ++ hd', c.Fz, H'⟩ (G ++ G0) o → Own c G o ∨ (c.H.next ≤ o ∧ o < H'.next) := by
      rintro o ⟨p, ob', k, h, e1, e2, e3, e4⟩
      rcases hinv p k h ob' e3 e1 with ⟨q1, q2⟩ | ⟨_, r1, r2⟩
      · exact .inl ⟨p, ob', k, h, q2, e2, q1, e4⟩
      · have := hownG _ k h ob' o r1 r2 e2 e4
        exact .inr ⟨q6 o this, q2.lt o this⟩
    refine ⟨m, v1, H', q1, ⟨c.hd ++ hd', c.Fz, H'⟩, shV G.length v0, G ++ G0, rfl, ?_, ?_, ?_, k⟩
    · refine ⟨by simp [hs.len, hlen'], fun o ho => Nat.lt_of_lt_of_le (hs.fz o ho) q4, fun o ho => ?_, fun o ho hf => ?_, fun p ob k h e1 e2 => ?_, fun p q ob ob' k h k' h' o e1 e2 e3 e4 e5 e6 e7 e8 => ?_⟩
      · rcases hown o ho with h | h
        · exact Nat.lt_of_lt_of_le (hs.lt o h) q4
        · exact h.2
      · rcases hown o ho with h | h
        · exact hs.sep o h hf
        · have := hs.fz o hf; omega
      · rcases hinv p k h ob e2 e1 with ⟨r1, r2⟩ | ⟨_, r1, r2⟩
        · by_cases hl : ob.live = true
          · exact (hs.obj p ob k h r2 r1).mono hle (fun o ho => q5 o (hs.lt o ⟨p, ob, k, h, r2, hl, r1, ho⟩))
          · cases ob <;> first | exact absurd rfl hl | trivial
        · obtain ⟨l, len, esz, rfl, hsc⟩ := hG _ _ r2
          obtain ⟨s0, s1, s2⟩ := q2.obj _ _ _ _ r2 r1
          refine ⟨s0, s1, ?_⟩
          rcases s2 with s2 | ⟨o, v, room, t, clen, l', s2, s3, s4, s5, s6, s7⟩
          · exact .inl s2
          · exact .inr ⟨o, v, room, t, clen, l', s2, s3, s4, s5, scals_any hsc s6, s7⟩
      · rcases hinv p k h ob e5 e1 with ⟨r1, r2⟩ | ⟨hp, r1, r2⟩ <;> rcases hinv q k' h' ob' e6 e2 with ⟨r3, r4⟩ | ⟨hq, r3, r4⟩
        · exact hs.excl p q ob ob' k h k' h' o r2 r4 e3 e4 r1 r3 e7 e8
        · have := hs.lt o ⟨p, ob, k, h, r2, e3, r1, e7⟩
          have := q6 o (hownG _ _ _ _ o r3 r4 e4 e8); omega
        · have := hs.lt o ⟨q, ob', k', h', r4, e4, r3, e8⟩
          have := q6 o (hownG _ _ _ _ o r1 r2 e3 e7); omega
        · have := q2.excl _ _ ob ob' k h k' h' o r2 r4 e3 e4 r1 r3 e7 e8
          omega
    · refine ⟨hle, q4, fun o ho _ => q5 o ho, fun o ho => (hown o ho).elim .inl (fun h => .inr h.1), fun o ho => .inl ho, fun p ob ob' e1 e2 => ?_, fun p ob ob' k h o e1 e2 e3 e4 e5 e6 => ?_⟩
      · rw [List.getElem?_append_left (List.getElem?_eq_some_iff.1 e1).1, e1] at e2
        cases e2; exact Nat.le_refl _
      · rw [List.getElem?_append_left (List.getElem?_eq_some_iff.1 e1).1, e1] at e2
        cases e2
        have hl : ob.live = true := by cases ob <;> first | rfl | cases e5
        exact ⟨rfl, q5 o (hs.lt o ⟨p, ob, k, h, e1, hl, e3, e4⟩), by rw [hhd p k h e3, e3]⟩
    · refine sh_AR (fun j a hj h => ?_) v0 v1 hsim q3
      cases h with
      | @dy _ _ k' hh _ e hk ha hsl =>
        exact .dy (k' := k') (h := hh) (by dsimp only; rw [List.getElem?_append_right (by rw [hs.len]; omega), hs.len, Nat.add_sub_cancel_left]; exact e) hk ha hsl
end calls
end Go.Sv
/- The logic's loops over functions. -/
namespace Go.Sv

def setPsL : List Nat → List LV → LEnv → LEnv
  | p :: ps, a :: as, ρ => setPsL ps as ((p, a) :: ρ)
  | _, _, ρ => ρ
theorem setPs_okL {c : Cx} {n : Nat} : ∀ {ps : List Nat} {args : List LV} {args1 : List AV} {ρ : LEnv} {E : Tr AV}, ARs c args args1 → EnvL c ρ E → ps.length = args.length → (∀ p ∈ ps, p < n) → ∃ E1, setPs ps args1 n E = some E1 ∧ EnvL c (setPsL ps args ρ) E1
  | [], [], _, ρ, E, .nil, hE, _, _ => ⟨E, rfl, hE⟩
  | [], _ :: _, _, _, _, _, _, h, _ => by simp at h
  | _ :: _, [], _, _, _, _, _, h, _ => by simp at h
  | p :: ps, a :: as, _, ρ, E, .cons e es, hE, hl, hp => by
    have hb : Nat.blt p n = true := by unfold Nat.blt; exact Nat.ble_eq_true_of_le (hp p (by simp))
    obtain ⟨E1, h1, h2⟩ := setPs_okL (n := n) (ps := ps) es (hE.put e (some p)) (by simpa using hl) (fun q hq => hp q (by simp [hq]))
    refine ⟨E1, ?_, h2⟩
    simp only [setPs]
    rw [hb]
    exact h1

section rules
variable {P : Program} {f n : Nat} {ρ : LEnv} {D : List Nat} {G : LHeap} {Q : Post}

theorem HSim.le_push {c : Cx} (hs : HSim c G) (x : Nat × AV) {H' : Heap} (hfr : ∀ o, o < c.H.next → H'.get o = c.H.get o) : CxLe c ⟨c.hd ++ [x], c.Fz, H'⟩ :=
  ⟨fun p k y e => ⟨k, y, by dsimp only; rw [List.getElem?_append_left (List.getElem?_eq_some_iff.1 e).1]; exact e, Nat.le_refl _, fun _ => rfl, fun _ => rfl⟩, fun o ho => ⟨ho, hfr o (hs.fz o ho)⟩⟩
theorem endLoop_okL {c : Cx} (hs : HSim c G) {p o : Nat} {s : LoopState} {pend : Option Code} {f' n' : Nat} {ρ' : LEnv} {aps : Array Tmp} {ca cb : Code} {d : Nat} (hg : G[p]? = some (.loop s pend f' n' ρ' aps ca cb d)) (e : c.hd[p]? = some (0, .ptr o 0 0)) (hb : s ≠ .busy) :
    ∃ c', endLoopA o c.H = some (pend, c'.H) ∧ HSim c' (G.set p (.loop .exhausted pend f' n' ρ' aps ca cb d)) ∧ Step c G c' (G.set p (.loop .exhausted pend f' n' ρ' aps ca cb d)) := by
  obtain ⟨_, o', od, E, he, q1, q2, q3⟩ := hs.obj p _ _ _ hg e
  injection he with he
  subst he
  obtain ⟨r1, r2, r3⟩ := hs.upd (k' := 0) (x' := .ptr o 0 0) (ob' := .loop .exhausted pend f' n' ρ' aps ca cb d) (H' := c.H.put o (.loop .exhausted pend f' n' E aps ca cb od)) hg rfl e (Nat.le_refl _) (fun o' _ hne => Heap.get_put_ne _ _ (fun q => hne (by rw [q]; rfl)))
    (fun o' e' => by cases e'; exact ⟨.inl rfl, hs.lt o ⟨p, _, _, _, hg, rfl, e, rfl⟩⟩) (Nat.le_refl _) (fun _ => rfl) (fun _ => rfl) (.inr ⟨rfl, Nat.le_refl _⟩)
    (fun hle => ⟨rfl, o, od, E, rfl, hle.fix q1 rfl, Heap.get_put_same _ _ _, q3.mono hle⟩)
  refine ⟨_, ?_, r1, r2⟩
  unfold endLoopA
  rw [q2]
  cases s <;> first | rfl | exact absurd rfl hb

/-- What stands behind a loop over a function. -/
def afterL (l : Nat) (ρ : LEnv) (D : List Nat) (Q : Post) (G2 : LHeap) : Prop := match G2[l]? with
  | some (.loop s pend f' n' ρ' aps ca cb d) => s ≠ .busy ∧ match pend with
    | none => Q .normal ρ D (G2.set l (.loop .exhausted pend f' n' ρ' aps ca cb d))
    | some c => match exOf c with
      | some x => Q x ρ D (G2.set l (.loop .exhausted pend f' n' ρ' aps ca cb d))
      | none => False
  | _ => False

theorem W_range {g : Lx} {ps : List Nat} {a b : LC} {fn' : Nat} {first cap : List LV} (hg : g.ev ρ = .fn (.func fn') first cap)
    (h : ∀ (ca cb : Code) (aps : Array Tmp), resC P n ca = some a.r → resC P n cb = some b.r → aps.toList = ps →
      CallL P (.fn fn') (first ++ [.fn (.yield (G.length + 1)) [] []] ++ cap) (G ++ [.defd true, .loop .ready none f n ρ aps ca cb G.length]) fun _ G2 => afterL (G.length + 1) ρ (G.length :: D) Q G2) :
    W P f n (.rangeF g ps a b) none ρ D G Q := by
  intro code c E D1 ro1 h1 h2 h3 h4 h5 h6
  obtain ⟨cg, aps, ca, cb, rfl, haps, hcg, hca, hcb⟩ := inv_range h1
  simp only [LC.ok, Bool.and_eq_true] at h2
  have hcall := h ca cb aps hca hcb haps
  have hro : ro1 = none := by cases ro1 with
    | none => rfl
    | some _ => exact h6.elim
  subst hro
  have hv := Lx_ok h4 h2.1.1
  have hop := resO_ok hcg (EnvR_ρA E)
  rw [hg] at hv
  generalize g.r.ev (ρA E) = gv at hv hop
  cases hv with
  | @fn _ _ _ first' cap' hl hr =>
    -- the mark and the loop
    obtain ⟨s1, s2, s3⟩ := h3.push (H' := c.H.push (.defd true)) (x := .ptr c.H.next 0 0) (ob := .defd true) (Nat.le_succ _) (fun o ho => Heap.get_push_ne _ _ ho) (fun o e => by cases e; exact ⟨Nat.le_refl _, Nat.lt_succ_self _⟩) ⟨rfl, c.H.next, rfl, Heap.get_push_same _ _⟩
    have hd1 : (c.hd ++ [(0, AV.ptr c.H.next 0 0)])[G.length]? = some (0, .ptr c.H.next 0 0) := by rw [← h3.len]; exact List.getElem?_concat_length
    generalize hc1 : (⟨c.hd ++ [(0, .ptr c.H.next 0 0)], c.Fz, c.H.push (.defd true)⟩ : Cx) = c1 at s1 s2 s3
    have e1 : c1.H = c.H.push (.defd true) := by rw [← hc1]
    have e2 : c1.hd[G.length]? = some (0, .ptr c.H.next 0 0) := by rw [← hc1]; exact hd1
    obtain ⟨t1, t2, t3⟩ := s1.push (H' := c1.H.push (.loop .ready none f n E aps ca cb c.H.next)) (x := .ptr c1.H.next 0 0) (ob := .loop .ready none f n ρ aps ca cb G.length) (Nat.le_succ _) (fun o ho => Heap.get_push_ne _ _ ho) (fun o e => by cases e; exact ⟨Nat.le_refl _, Nat.lt_succ_self _⟩)
      ⟨rfl, c1.H.next, c.H.next, E, rfl, by rw [List.getElem?_append_left (by rw [s1.len]; simp)]; exact e2, Heap.get_push_same _ _, (h4.mono s3).mono (s1.le_push _ (fun o ho => Heap.get_push_ne _ _ ho))⟩
    have hd2 : (c1.hd ++ [(0, AV.ptr c1.H.next 0 0)])[G.length + 1]? = some (0, .ptr c1.H.next 0 0) := by
      have : c1.hd.length = G.length + 1 := by rw [s1.len]; simp
      rw [← this]; exact List.getElem?_concat_length
    generalize hc2 : (⟨c1.hd ++ [(0, .ptr c1.H.next 0 0)], c1.Fz, c1.H.push (.loop .ready none f n E aps ca cb c.H.next)⟩ : Cx) = c2 at t1 t2 t3
    have e3 : c2.H = c1.H.push (.loop .ready none f n E aps ca cb c.H.next) := by rw [← hc2]
    have e4 : c2.hd[G.length + 1]? = some (0, .ptr c1.H.next 0 0) := by rw [← hc2]; exact hd2
    rw [List.append_assoc] at t1 t2
    have hn1 : c1.H.next = c.H.next + 1 := by rw [e1]; rfl
    have hle2 : CxLe c c2 := s3.trans t3
    -- the call
    obtain ⟨m, v1, H', u1, c3, v, G3, rfl, u3, u4, u5, u6⟩ := hcall.2 c2 (.fn fn') (first' ++ [.fn (.yield c1.H.next) [] []] ++ cap') t1 rfl
      (((hl.mono hle2).append (.cons (.yield e4) .nil)).append (hr.mono hle2))
    have e5 : c3.hd[G.length + 1]? = some (0, .ptr c1.H.next 0 0) := u4.le.fix e4 rfl
    have st3 : Step c G c3 G3 := (Step.trans h3 s1 s2 t2 |>.trans h3 t1) u4
    unfold afterL at u6
    split at u6
    · rename_i s pend f' n' ρ' aps' ca' cb' d' hg3
      obtain ⟨hbusy, u6⟩ := u6
      obtain ⟨c4, w1, w2, w3⟩ := endLoop_okL u3 hg3 e5 hbusy
      have hle4 : CxLe c c4 := st3.le.trans w3.le
      have hD : DRs c4 (G.length :: D) (c.H.next :: D1) := .cons (w3.le.fix (u4.le.fix (t3.fix e2 rfl) rfl) rfl) (h5.mono hle4)
      have run : ∀ x, (match pend with | none => some Ex.normal | some cd => exOf cd) = some x → (compCode P f n (.rangeFunc cg aps ca cb)).run (callA P (OL P) m) m none E D1 c.H = .ok x E (c.H.next :: D1) c4.H := by
        intro x hx
        simp only [compCode]
        rw [hop]
        dsimp only
        unfold enterLoopA
        dsimp only
        have hcf : callFn P (.fn (.func fn') first' cap') [.fn (.yield (Nat.add c.H.next 1)) [] []] = .call (.fn fn') (first' ++ [.fn (.yield c1.H.next) [] []] ++ cap') := by
          unfold callFn
          dsimp only
          rw [if_pos hcall.1.1, hn1]
        rw [hcf]
        dsimp only
        have hH2 : (c.H.push (.defd true)).push (.loop .ready none f n E aps ca cb c.H.next) = c2.H := by rw [e3, e1]
        rw [hH2, u1]
        dsimp only
        rw [show Nat.add c.H.next 1 = c1.H.next from hn1.symm, w1]
        cases pend with
        | none => cases hx; rfl
        | some cd => dsimp only at hx ⊢; rw [hx]
      cases pend with
      | none => exact ⟨m, .normal, E, c.H.next :: D1, c4, ρ, G.length :: D, _, run .normal rfl, w2, st3.trans h3 u3 w3, h4.mono hle4, hD, u6⟩
      | some cd =>
        dsimp only at u6
        split at u6
        · rename_i x hx
          exact ⟨m, x, E, c.H.next :: D1, c4, ρ, G.length :: D, _, run x hx, w2, st3.trans h3 u3 w3, h4.mono hle4, hD, u6⟩
        · exact u6.elim
    · exact u6.elim

/-- A round of a loop over a function. -/
theorem CallL_yield {p : Nat} {aps : Array Tmp} {ca cb : Code} {d : Nat} {a b : LC} {args : List LV} {K : LV → LHeap → Prop} (hg : G[p]? = some (.loop .ready none f n ρ aps ca cb d)) (hca : resC P n ca = some a.r) (hcb : resC P n cb = some b.r) (hoka : a.ok = true) (hokb : b.ok = true)
    {ps : List Nat} (hps : aps.toList = ps) (hlen : ps.length = args.length) (hlt : ∀ q ∈ ps, q < n)
    (h : W P f n a (some p) (setPsL ps args ρ) [] G fun x ρ2 D2 G2 => match x with
      | .normal => D2 = [] ∧ G2[p]? = some (.loop .ready none f n ρ aps ca cb d) ∧ W P f n b (some p) ρ2 [] (G2.set p (.loop .busy none f n ρ aps ca cb d)) fun x _ D3 G3 => D3 = [] ∧ match G3[p]? with
        | some (.loop _ _ f' n' ρ' aps' ca' cb' d') => match x with
          | .normal => K (.bool true) (G3.set p (.loop .ready none f' n' ρ' aps' ca' cb' d'))
          | .ret => K (.bool false) (G3.set p (.loop .done (some .ret) f' n' ρ' aps' ca' cb' d'))
          | .exit id => K (.bool false) (G3.set p (.loop .done (some (.exit id)) f' n' ρ' aps' ca' cb' d'))
        | _ => False
      | _ => False) : CallL P (.yield p) args G K := by
  refine ⟨trivial, fun c t1 args1 hs ht ha => ?_⟩
  cases t1 with
  | fn g => exact ht.elim
  | yield o =>
    have e : c.hd[p]? = some (0, .ptr o 0 0) := ht
    obtain ⟨_, o', od, E, he, q1, q2, q3⟩ := hs.obj p _ _ _ hg e
    injection he with he
    subst he
    obtain ⟨E1, r1, r2⟩ := setPs_okL (n := n) ha q3 hlen hlt
    rw [← hps] at r1
    obtain ⟨m, x, E2, D2, c2, ρ2, D2', G2, s1, s2, s3, s4, s5, s6⟩ := h ca c E1 [] (some o) hca hoka hs r2 .nil e
    cases x with
    | exit id => exact s6.elim
    | ret => exact s6.elim
    | normal =>
      obtain ⟨rfl, hg2, s6⟩ := s6
      cases s5
      have e2 := s3.le.fix e rfl
      obtain ⟨_, o', od2, Eo, he, t1, t2, t3⟩ := s2.obj p _ _ _ hg2 e2
      injection he with he
      subst he
      obtain ⟨v1, v2, v3⟩ := s2.upd (k' := 0) (x' := .ptr o 0 0) (ob' := .loop .busy none f n ρ aps ca cb d) (H' := c2.H.put o (.loop .busy none f n Eo aps ca cb od2)) hg2 rfl e2 (Nat.le_refl _) (fun o' _ hne => Heap.get_put_ne _ _ (fun q => hne (by rw [q]; rfl)))
        (fun o' e' => by cases e'; exact ⟨.inl rfl, s2.lt o ⟨p, _, _, _, hg2, rfl, e2, rfl⟩⟩) (Nat.le_refl _) (fun _ => rfl) (fun _ => rfl) (.inr ⟨rfl, Nat.le_refl _⟩)
        (fun hle => ⟨rfl, o, od2, Eo, rfl, hle.fix t1 rfl, Heap.get_put_same _ _ _, t3.mono hle⟩)
      obtain ⟨m3, x, E3, D3, c4, ρ3, D3', G3, w1, w2, w3, w4, w5, rfl, w7⟩ := s6 cb _ E2 [] (some o) hcb hokb v1 (s4.mono v3) .nil (v3.fix e2 rfl)
      cases w5
      have e4 := w3.le.fix (v3.fix e2 rfl) rfl
      have hbeg : beginA o c2.H = some (c2.H.put o (.loop .busy none f n Eo aps ca cb od2)) := by unfold beginA; rw [t2]
      -- the round's end
      split at w7
      · rename_i s' pd f' n' ρ' aps' ca' cb' d' hg3
        obtain ⟨_, o', od3, Ee, he, x1, x2, x3⟩ := w2.obj p _ _ _ hg3 e4
        injection he with he
        subst he
        have fin : ∀ (st' : LoopState) (pd' : Option Code) (bv : Bool), endRoundA o x c4.H = .ok (.bool bv) (c4.H.put o (.loop st' pd' f' n' Ee aps' ca' cb' od3)) → K (.bool bv) (G3.set p (.loop st' pd' f' n' ρ' aps' ca' cb' d')) →
            ∃ m v1 H', callA P (OL P) m (.yield o) args1 c.H = .ok v1 H' ∧ ∃ c' v G', c'.H = H' ∧ HSim c' G' ∧ Step c G c' G' ∧ AR c' v v1 ∧ K v G' := by
          intro st' pd' bv hend hk
          obtain ⟨y1, y2, y3⟩ := w2.upd (k' := 0) (x' := .ptr o 0 0) (ob' := .loop st' pd' f' n' ρ' aps' ca' cb' d') (H' := c4.H.put o (.loop st' pd' f' n' Ee aps' ca' cb' od3)) hg3 rfl e4 (Nat.le_refl _) (fun o' _ hne => Heap.get_put_ne _ _ (fun q => hne (by rw [q]; rfl)))
            (fun o' e' => by cases e'; exact ⟨.inl rfl, w2.lt o ⟨p, _, _, _, hg3, rfl, e4, rfl⟩⟩) (Nat.le_refl _) (fun _ => rfl) (fun _ => rfl) (.inr ⟨rfl, Nat.le_refl _⟩)
            (fun hle => ⟨rfl, o, od3, Ee, rfl, hle.fix x1 rfl, Heap.get_put_same _ _ _, x3.mono hle⟩)
          refine ⟨max m m3 + 1, .bool bv, _, ?_, _, .bool bv, _, rfl, y1, .trans hs w2 (.trans hs v1 (.trans hs s2 s3 v2) w3) y2, .bool bv, hk⟩
          unfold callA
          dsimp only
          rw [q2]
          dsimp only
          rw [r1]
          dsimp only
          rw [compCode_mono (callA_mono (Nat.le_max_left m m3)) (Nat.le_max_left m m3) _ s1]
          dsimp only
          rw [hbeg]
          dsimp only
          rw [compCode_mono (callA_mono (Nat.le_max_right m m3)) (Nat.le_max_right m m3) _ w1]
          exact hend
        have hend : ∀ y, endRoundA o y c4.H = match y with
            | .normal => .ok (.bool true) (c4.H.put o (.loop .ready none f' n' Ee aps' ca' cb' od3))
            | .ret => .ok (.bool false) (c4.H.put o (.loop .done (some .ret) f' n' Ee aps' ca' cb' od3))
            | .exit id => .ok (.bool false) (c4.H.put o (.loop .done (some (.exit id)) f' n' Ee aps' ca' cb' od3)) := fun y => by
          unfold endRoundA
          rw [x2]
          cases y <;> rfl
        cases x with
        | normal => exact fin _ _ _ (hend .normal) w7
        | ret => exact fin _ _ _ (hend .ret) w7
        | exit id => exact fin _ _ _ (hend (.exit id)) w7
      · exact w7.elim
end rules
end Go.Sv
/- The logic's code as one formula; the logic's words open by themselves, from the outside in. -/
namespace Go.Sv

/-- What code comes to, up to its loops. -/
noncomputable def wp (P : Program) (f n : Nat) (ro : Option Nat) : LC → LEnv → List Nat → LHeap → Post → Prop
  | .skip, ρ, D, G, Q => Q .normal ρ D G
  | .ops l, ρ, D, G, Q => OpsL P l ρ G fun ρ' G' => Q .normal ρ' D G'
  | .seq a b, ρ, D, G, Q => wp P f n ro a ρ D G fun x ρ' D' G' => match x with
    | .normal => wp P f n ro b ρ' D' G' Q
    | x => Q x ρ' D' G'
  | .cond x a b, ρ, D, G, Q => brV (x.ev ρ) (wp P f n ro a ρ D G Q) (wp P f n ro b ρ D G Q)
  | .block id c, ρ, D, G, Q => wp P f n ro c ρ D G fun x ρ' D' G' => match x with
    | .exit i => if i = id then Q .normal ρ' D' G' else Q (.exit i) ρ' D' G'
    | x => Q x ρ' D' G'
  | .draw l, ρ, D, G, Q => DrL P l ρ G fun ρ' G' => Q .normal ρ' D G'
  | .exit id, ρ, D, G, Q => Q (.exit id) ρ D G
  | .scope c, ρ, D, G, Q => wp P f n ro c ρ D G Q
  | .label, ρ, D, G, Q => Q .normal ρ D G
  | .ret, ρ, D, G, Q => Q .ret ρ D G
  | .stuck, _, _, _, _ => False
  | s, ρ, D, G, Q => W P f n s ro ρ D G Q
/-! ### What stands behind, named -/
noncomputable def seqQ (P : Program) (f n : Nat) (ro : Option Nat) (b : LC) (Q : Post) : Post := fun x ρ' D' G' => match x with
    | .normal => wp P f n ro b ρ' D' G' Q
    | x => Q x ρ' D' G'
def blkQ (id : Nat) (Q : Post) : Post := fun x ρ' D' G' => match x with
    | .exit i => if i = id then Q .normal ρ' D' G' else Q (.exit i) ρ' D' G'
    | x => Q x ρ' D' G'
def nxQ (Nx : LEnv → List Nat → LHeap → Prop) (Q : Post) : Post := fun x ρ' D' G' => match x with
    | .normal => Nx ρ' D' G'
    | x => Q x ρ' D' G'
def endK (K : LV → LHeap → Prop) (G : LHeap) : List LV → Prop := fun vs => K (oneL vs) G
noncomputable def takK (ρ : LEnv) (rs : List RRes) (K : LV → LHeap → Prop) : LHeap → Prop := fun G2 => resL ρ G2 rs (endK K G2)
noncomputable def endQ (rs : List RRes) (K : LV → LHeap → Prop) : Post := fun x ρ D G' => match x with
      | .exit _ => False
      | _ => takeL D G' (takK ρ rs K)
def norQ (Q : Post) (D : List Nat) : LEnv → LHeap → Prop := fun ρ G => Q .normal ρ D G
noncomputable def opsK (P : Program) (l : List LI) (K : LEnv → LHeap → Prop) : LEnv → LHeap → Prop := fun ρ' G' => OpsL P l ρ' G' K
def itK (ρ : LEnv) (d : Option Nat) (K : LEnv → LHeap → Prop) : LV → LHeap → Prop := fun v G' => K (updL ρ d v) G'
def atG (K : LV → LHeap → Prop) (G : LHeap) : LV → Prop := fun v => K v G
noncomputable def drK (P : Program) (cs : List (LI × Bool)) (l : List (LI × List (LI × Bool))) (ρ : LEnv) (G : LHeap) (K : LEnv → LHeap → Prop) : LEnv → LHeap → Prop := fun ρ' G' => cksL ρ G G' cs ∧ DrL P l ρ' G' K
noncomputable def tmpK (ρ : LEnv) (t : Nat) (K : List LV → Prop) : List LV → Prop := fun vs => K (lk ρ t :: vs)
def conK (v : LV) (K : List LV → Prop) : List LV → Prop := fun vs => K (v :: vs)
noncomputable def c1K (ρ : LEnv) (G : LHeap) (l : List RRes) (K : List LV → Prop) : LV → Prop := fun v => resL ρ G l (conK v K)
noncomputable def cnK (ρ : LEnv) (G : LHeap) (l : List RRes) (K : List LV → Prop) : List LV → Prop := fun cs => resL ρ G l (conK (.agg cs) K)
def takM (o : Option LObj) (A : Prop) : Prop := match o with
  | some (.defd true) => A
  | _ => False
theorem wp_W {P : Program} {f n : Nat} {ro : Option Nat} : ∀ (s : LC) {ρ : LEnv} {D : List Nat} {G : LHeap} {Q : Post}, wp P f n ro s ρ D G Q → W P f n s ro ρ D G Q
  | .skip, _, _, _, _, h => W_skip h
  | .ops l, _, _, _, _, h => W_ops h
  | .seq a b, _, _, _, _, h => W_seq ((wp_W a h).post fun x ρ D G k => by
    cases x with
    | normal => exact wp_W b k
    | exit i => exact k
    | ret => exact k)
  | .cond x a b, ρ, _, _, _, h => by
    simp only [wp] at h
    obtain ⟨t, hx, h⟩ := brV_bool h
    exact W_cond hx (fun e => wp_W a (h.1 e)) (fun e => wp_W b (h.2 e))
  | .block id c, _, _, _, _, h => W_block (wp_W c h)
  | .exit id, _, _, _, _, h => W_exit h
  | .scope c, _, _, _, _, h => W_scope (wp_W c h)
  | .label, _, _, _, _, h => W_label h
  | .ret, _, _, _, _, h => W_ret h
  | .stuck, _, _, _, _, h => h.elim
  | .draw l, _, _, _, _, h => W_draw h
  | .loop c, _, _, _, _, h => h
  | .rangeF g ps a b, _, _, _, _, h => h

section rules
variable {P : Program}
theorem call_body {f : Nat} {s : LC} {n : Nat} {rs : List RRes} (hf : resFn P f = some ⟨n, s.r, rs⟩) (hok : s.ok = true) {args : List LV} {G : LHeap} {K : LV → LHeap → Prop} (hn : args.length ≤ n)
    (h : wp P f n none s (argsL args 0) [] G (endQ rs K)) : CallL P (.fn f) args G K :=
  CallL_body hf hok hn ((wp_W s h).post fun x ρ D G' k => by
    cases x with
    | normal => exact ⟨trivial, k⟩
    | exit i => exact k.elim
    | ret => exact ⟨trivial, k⟩)
/-- A contract for a function whose results are no rows. -/
theorem FnS.val {f : Nat} {args : List LV} {v0 : LV} (hsim : v0.sim 0 = true) (h : CallL P (.fn f) args [] fun v _ => v = subV [] v0) : FnS P f args v0 [] :=
  .mk hsim (h.mono fun v G e => ⟨[], e, rfl, trivial⟩) (fun j ob e => by simp at e)
theorem loop_wp {f n : Nat} {ro : Option Nat} {ρ : LEnv} {D : List Nat} {G : LHeap} {Q : Post} {s : LC} (I : LEnv → List Nat → LHeap → Nat → Prop) {N : Nat} (h0 : I ρ D G N)
    (h : ∀ N ρ D G, I ρ D G N → wp P f n ro s ρ D G (nxQ (fun ρ' D' G' => ∃ N', N' < N ∧ I ρ' D' G' N') Q)) : W P f n (.loop s) ro ρ D G Q :=
  W_loop I h0 fun N ρ D G k => wp_W s (h N ρ D G k)
/-- The same, the next round's start hidden from what goes through the round. -/
theorem loop_nx {f n : Nat} {ro : Option Nat} {ρ : LEnv} {D : List Nat} {G : LHeap} {Q : Post} {s : LC} (I : LEnv → List Nat → LHeap → Nat → Prop) {N : Nat} (h0 : I ρ D G N)
    (h : ∀ (N : Nat) (ρ : LEnv) (D : List Nat) (G : LHeap), I ρ D G N → ∀ Nx : LEnv → List Nat → LHeap → Prop, (∀ (ρ' : LEnv) (D' : List Nat) (G' : LHeap), (∃ N', N' < N ∧ I ρ' D' G' N') → Nx ρ' D' G') → wp P f n ro s ρ D G (nxQ Nx Q)) : W P f n (.loop s) ro ρ D G Q :=
  W_loop I h0 fun N ρ D G k => wp_W s (h N ρ D G k (fun ρ' D' G' => ∃ N', N' < N ∧ I ρ' D' G' N') fun _ _ _ e => e)
end rules

/-! ### From the outside in: what stands behind is left alone -/
section congr
variable {P : Program} {ρ ρ' : LEnv} {G G' : LHeap} {x x' y y' : LV} {K : LV → LHeap → Prop} {Kv : LV → Prop}
@[congr] theorem OpL_congr {o : LOp} (h1 : ρ = ρ') (h2 : G = G') : OpL P ρ G o K = OpL P ρ' G' o K := by rw [h1, h2]
@[congr] theorem ItL_congr {i : LI} {K : LEnv → LHeap → Prop} (h1 : ρ = ρ') (h2 : G = G') : ItL P i ρ G K = ItL P i ρ' G' K := by rw [h1, h2]
@[congr] theorem DrL_congr {l : List (LI × List (LI × Bool))} {K : LEnv → LHeap → Prop} (h1 : ρ = ρ') (h2 : G = G') : DrL P l ρ G K = DrL P l ρ' G' K := by rw [h1, h2]
@[congr] theorem OpsL_congr {l : List LI} {K : LEnv → LHeap → Prop} (h1 : ρ = ρ') (h2 : G = G') : OpsL P l ρ G K = OpsL P l ρ' G' K := by rw [h1, h2]
@[congr] theorem W_congr {f n : Nat} {s : LC} {ro : Option Nat} {D : List Nat} {Q : Post} (h1 : ρ = ρ') (h2 : G = G') : W P f n s ro ρ D G Q = W P f n s ro ρ' D G' Q := by rw [h1, h2]
@[congr] theorem wp_congr {f n : Nat} {s : LC} {ro : Option Nat} {D : List Nat} {Q : Post} (h1 : ρ = ρ') (h2 : G = G') : wp P f n ro s ρ D G Q = wp P f n ro s ρ' D G' Q := by rw [h1, h2]
@[congr] theorem CallL_congr {t : LTgt} {a a' : List LV} (h1 : a = a') (h2 : G = G') : CallL P t a G K = CallL P t a' G' K := by rw [h1, h2]
@[congr] theorem binL_congr {op : BinOp} {g : Bool} {t : TypeId} (h1 : x = x') (h2 : y = y') : binL P op g t x y Kv = binL P op g t x' y' Kv := by rw [h1, h2]
@[congr] theorem unL_congr {op : UnOp} (h1 : x = x') : unL op x Kv = unL op x' Kv := by rw [h1]
@[congr] theorem cvL_congr {k : IntKind} (h1 : x = x') : cvL k x Kv = cvL k x' Kv := by rw [h1]
@[congr] theorem readL_congr {n : Nat} {K : List LV → Prop} (h1 : G = G') (h2 : x = x') : readL G x n K = readL G' x' n K := by rw [h1, h2]
@[congr] theorem read1_congr (h1 : G = G') (h2 : x = x') : read1 G x Kv = read1 G' x' Kv := by rw [h1, h2]
@[congr] theorem nthL_congr {l l' : List LV} {i i' : Nat} (h1 : l = l') (h2 : i = i') : nthL l i Kv = nthL l' i' Kv := by rw [h1, h2]
@[congr] theorem writeL_congr {r r' : List LV} {K : LHeap → Prop} (h1 : G = G') (h2 : x = x') (h3 : r = r') : writeL G x r K = writeL G' x' r' K := by rw [h1, h2, h3]
@[congr] theorem rowL_congr {n : Nat} {K : Nat → List LV → Prop} (h1 : G = G') (h2 : x = x') : rowL G n x K = rowL G' n x' K := by rw [h1, h2]
@[congr] theorem bytL_congr {K : List LV → Prop} (h1 : G = G') (h2 : x = x') : bytL G x K = bytL G' x' K := by rw [h1, h2]
@[congr] theorem lenL_congr {K : Nat → Prop} (h1 : G = G') (h2 : x = x') : lenL G x K = lenL G' x' K := by rw [h1, h2]
@[congr] theorem appL_congr {size n n' : Nat} {l l' : List LV} (h1 : G = G') (h2 : x = x') (h3 : n = n') (h4 : l = l') : appL G size x n l K = appL G' size x' n' l' K := by rw [h1, h2, h3, h4]
@[congr] theorem bndL_congr {d d' : Nat} {o : Option Lx} {K : Nat → Prop} (h1 : ρ = ρ') (h2 : d = d') : bndL ρ d o K = bndL ρ' d' o K := by rw [h1, h2]
@[congr] theorem resL_congr {l : List RRes} {K : List LV → Prop} (h1 : ρ = ρ') (h2 : G = G') : resL ρ G l K = resL ρ' G' l K := by rw [h1, h2]
@[congr] theorem takeL_congr {D : List Nat} {K : LHeap → Prop} (h2 : G = G') : takeL D G K = takeL D G' K := by rw [h2]
@[congr] theorem brL_congr {t t' : Bool} {A B : Prop} (h : t = t') : brL t A B = brL t' A B := by rw [h]
@[congr] theorem brG_congr {A B Z : Prop} (h : x = x') : brG x A B Z = brG x' A B Z := by rw [h]
@[congr] theorem brV_congr {A B : Prop} (h : x = x') : brV x A B = brV x' A B := by rw [h]
end congr

/-! ### Two ways: what is not gone is not looked at -/
theorem brV_bool' {t : Bool} {A B : Prop} : brV (.bool t) A B = brL t A B := (rfl)
theorem brG_bool {t : Bool} {A B Z : Prop} : brG (.bool t) A B Z = brL t A B := (rfl)
theorem brG_nil {A B Z : Prop} : brG (.tup []) A B Z = Z := (rfl)
theorem brL_true {A B : Prop} : brL true A B = A := by simp [brL]
theorem brL_false {A B : Prop} : brL false A B = B := by simp [brL]
theorem brL_dec {p : Prop} [Decidable p] {A B : Prop} : brL (decide p) A B = ((p → A) ∧ (¬ p → B)) := by simp [brL]
theorem brL_not {b : Bool} {A B : Prop} : brL (!b) A B = brL b B A := by cases b <;> simp [brL]
theorem brL_and {x y : Bool} {A B : Prop} : brL (x && y) A B = (((x && y) = true → A) ∧ ((x && y) = false → B)) := (rfl)
theorem brL_or {x y : Bool} {A B : Prop} : brL (x || y) A B = (((x || y) = true → A) ∧ ((x || y) = false → B)) := (rfl)
theorem brL_var {b : Bool} {A B : Prop} : brL b A B ↔ (b = true → A) ∧ (b = false → B) := .rfl

/-! ### One place -/
theorem nthL_nil (i : Nat) (K : LV → Prop) : nthL [] i K = False := by simp [nthL]
theorem nthL_zero (v : LV) (l : List LV) (K : LV → Prop) : nthL (v :: l) 0 K = K v := by simp [nthL]
theorem nthL_succ (v : LV) (l : List LV) (i : Nat) (K : LV → Prop) : nthL (v :: l) (i + 1) K = nthL l i K := by simp [nthL]
theorem nthL_map {α : Type} (f : α → LV) (d : α) (l : List α) (i : Nat) (K : LV → Prop) : nthL (l.map f) i K = (i < l.length ∧ K (f (l.getD i d))) := by
  unfold nthL
  by_cases h : i < l.length
  · simp [h]
  · simp [h]
theorem nthL_u (l : List UInt64) (i : Nat) (K : LV → Prop) : nthL (l.map .u) i K = (i < l.length ∧ K (.u (l.getD i 0))) := nthL_map _ _ _ _ _
theorem nthL_b (l : List UInt8) (i : Nat) (K : LV → Prop) : nthL (l.map .b) i K = (i < l.length ∧ K (.b (l.getD i 0))) := nthL_map _ _ _ _ _

theorem nthL_take (l : List LV) (m i : Nat) (K : LV → Prop) : nthL (l.take m) i K = (i < m ∧ nthL l i K) := by
  unfold nthL
  by_cases h : i < m
  · simp [h, List.getElem?_take_of_lt h]
  · simp [h, List.getElem?_take]
theorem nthL_drop (l : List LV) (m i : Nat) (K : LV → Prop) : nthL (l.drop m) i K = nthL l (m + i) K := by
  unfold nthL; simp

/-! ### Operations, each by its operands' values -/
def atC (o : Option LObj) (K : List LV → Nat → Prop) : Prop := match o with
  | some (.cells l st) => K l st
  | _ => False
def atD (o : Option LObj) (K : List LV → Nat → Nat → Nat → Nat → Prop) : Prop := match o with
  | some (.dyn l len esz ver st) => K l len esz ver st
  | _ => False
def cellsL (o : Option (List LV)) (K : List LV → Prop) : Prop := match o with
  | some l => K l
  | none => False
def pickL (c a b : LV) (K : LV → Prop) : Prop := match c with
  | .bool t => match a, b with
    | .bool x, .bool y => K (.bool (match t with | true => x | false => y))
    | x, y => brL t (K x) (K y)
  | _ => False
def chkL (x : LV) (K : LV → Prop) : Prop := match x with
  | .ptr p i => K (.ptr p i)
  | .cptr l i => K (.cptr l i)
  | .fn (.func f) a b => K (.fn (.func f) a b)
  | _ => False
def strL (x : LV) (K : List UInt8 → Prop) : Prop := match x with
  | .str l => K l
  | _ => False
def mkSlL (x y : LV) (K : Nat → Prop) : Prop := match x, y with
  | .i l, .i c => l = c ∧ 0 ≤ l ∧ l ≤ 1048576 ∧ K l.toNat
  | _, _ => False
def bndV (x : LV) (K : Nat → Prop) : Prop := match x with
  | .i n => 0 ≤ n ∧ K n.toNat
  | .u n => K n.toNat
  | _ => False
def slL (G : LHeap) (size : Nat) (x : LV) (lo : (Nat → Prop) → Prop) (hi : Nat → (Nat → Prop) → Prop) (K : LV → Prop) : Prop := match x with
  | .nilSl => lo fun a => hi 0 fun b => a = 0 ∧ b = 0 ∧ K .nilSl
  | .dy p k => atD G[p]? fun _ len esz ver _ => k = ver ∧ esz = size ∧ lo fun a => hi len fun b => a ≤ b ∧ b ≤ len ∧ K (.vw p k a (b - a))
  | .vw p k l0 len => atD G[p]? fun _ _ esz ver _ => k = ver ∧ esz = size ∧ lo fun a => hi len fun b => a ≤ b ∧ b ≤ len ∧ K (.vw p k (l0 + a) (b - a))
  | .lst l len esz => esz = size ∧ lo fun a => hi len fun b => a ≤ b ∧ b ≤ len ∧ K (.lst ((l.drop (a * esz)).take ((b - a) * esz)) (b - a) esz)
  | _ => False
def sl3L (G : LHeap) (size : Nat) (x : LV) (lo : (Nat → Prop) → Prop) (hi : Nat → (Nat → Prop) → Prop) (mx : (Nat → Prop) → Prop) (K : LV → Prop) : Prop := match x with
  | .dy p k => atD G[p]? fun _ len esz ver _ => k = ver ∧ esz = size ∧ lo fun a => hi len fun b => mx fun m => 0 < len ∧ a ≤ b ∧ b ≤ m ∧ m ≤ len ∧ K (.vw p k a (b - a))
  | .lst l len esz => esz = size ∧ lo fun a => hi len fun b => mx fun m => 0 < len ∧ a ≤ b ∧ b ≤ m ∧ m ≤ len ∧ K (.lst ((l.drop (a * esz)).take ((b - a) * esz)) (b - a) esz)
  | _ => False
def offL (off : Nat) (x : LV) (K : LV → Prop) : Prop := match x with
  | .ptr p i => K (.ptr p (i + off))
  | .dptr p k i => K (.dptr p k (i + off))
  | .cptr l i => K (.cptr l (i + off))
  | _ => False
def fldL (g : Bool) (n off : Nat) (x : LV) (K : LV → Prop) : Prop := match x with
  | .agg l => match g with
    | true => off + n ≤ l.length ∧ K (.agg ((l.drop off).take n))
    | false => nthL l off K
  | _ => False
def ixV (G : LHeap) (size : Nat) (x : LV) (n : Int) (K : LV → Prop) : Prop := match x with
  | .dy p k => atD G[p]? fun _ len esz ver _ => k = ver ∧ esz = size ∧ 0 ≤ n ∧ n < len ∧ K (.dptr p k (n.toNat * size))
  | .vw p k lo len => atD G[p]? fun _ _ esz ver _ => k = ver ∧ esz = size ∧ 0 ≤ n ∧ n < len ∧ K (.dptr p k ((lo + n.toNat) * size))
  | .lst l len esz => esz = size ∧ 0 ≤ n ∧ n < len ∧ K (.cptr l (n.toNat * size))
  | _ => False
def ixL (G : LHeap) (size : Nat) (x i : LV) (K : LV → Prop) : Prop := match i with
  | .i n => ixV G size x n K
  | _ => False
def ixSL (x i : LV) (K : LV → Prop) : Prop := match x, i with
  | .str l, .i n => 0 ≤ n ∧ n < l.length ∧ K (.b (l.getD n.toNat 0))
  | .str l, .u n => n.toNat < l.length ∧ K (.b (l.getD n.toNat 0))
  | .str l, .b n => n.toNat < l.length ∧ K (.b (l.getD n.toNat 0))
  | _, _ => False
def tupL (i : Nat) (x : LV) (K : LV → Prop) : Prop := match x with
  | .tup l => nthL l i K
  | _ => False
def maxL (mx : Bool) (x y : LV) (K : LV → Prop) : Prop := match x, y with
  | .i a, .i b => K (.i (match mx with | true => max a b | false => min a b))
  | .u a, .u b => K (.u (match mx with | true => if a < b then b else a | false => if b < a then b else a))
  | _, _ => False
def lenZ (x : LV) (K : Nat → Prop) : Prop := match x with
  | .i n => 0 ≤ n ∧ n ≤ 1048576 ∧ K n.toNat
  | _ => False
def copyL (G : LHeap) (size : Nat) (d : LV) (n : Nat) (l : List LV) (K : LV → LHeap → Prop) : Prop := match d with
  | .dy p k => atD G[p]? fun r len esz ver st => k = ver ∧ esz = size ∧ K (.i (min n len : Nat)) (G.set p (.dyn (layLV r 0 (l.take (min n len * size))) len esz ver (st + 1)))
  | .vw p k lo len => atD G[p]? fun r len0 esz ver st => k = ver ∧ esz = size ∧ (lo + len) * size ≤ r.length ∧ K (.i (min n len : Nat)) (G.set p (.dyn (layLV r (lo * size) (l.take (min n len * size))) len0 esz ver (st + 1)))
  | _ => False
def clearL (G : LHeap) (size : Nat) (z : List LV) (x : LV) (K : LHeap → Prop) : Prop := match x with
  | .vw p k lo len => atD G[p]? fun r len0 esz ver st => k = ver ∧ esz = size ∧ z.length = size ∧ (lo + len) * size ≤ r.length ∧ K (G.set p (.dyn (layLV r (lo * size) (repL z len)) len0 esz ver (st + 1)))
  | _ => False
def goL (P : Program) (f : LV) (args : List LV) (G : LHeap) (K : LV → LHeap → Prop) : Prop := match f with
  | .fn (.func g) a b => CallL P (.fn g) (a ++ args ++ b) G K
  | .fn (.yield p) [] _ => CallL P (.yield p) args G K
  | _ => False
section byOps
variable {P : Program} {ρ : LEnv} {G : LHeap} {K : LV → LHeap → Prop} {x y c a b s d i f : Lx} {l cs z : List LV} {ps : List (Nat × Nat × Lx)} {n size len off : Nat} {lo hi : Option Lx}
theorem OpL_move : OpL P ρ G (.move x) K = K (x.ev ρ) G := (rfl)
theorem OpL_pick : OpL P ρ G (.pick c a b) K = pickL (c.ev ρ) (a.ev ρ) (b.ev ρ) (atG K G) := (rfl)
theorem OpL_alloc : OpL P ρ G (.alloc l) K = K (.ptr G.length 0) (G ++ [.cells l 0]) := (rfl)
theorem OpL_box : OpL P ρ G (.box x) K = cellsL (x.ev ρ).cells fun l => K (.ptr G.length 0) (G ++ [.cells l 0]) := (rfl)
theorem OpL_build : OpL P ρ G (.build cs ps) K = cellsL (fillL ρ cs ps) fun l => K (.agg l) G := (rfl)
theorem OpL_buildSl : OpL P ρ G (.buildSl size len cs ps) K = cellsL (fillL ρ cs ps) fun l => l.length = len * size ∧ K (.dy G.length 0) (G ++ [.dyn l len size 0 0]) := (rfl)
theorem OpL_load1 : OpL P ρ G (.load1 x) K = read1 G (x.ev ρ) (atG K G) := (rfl)
theorem OpL_loadN : OpL P ρ G (.loadN n x) K = readL G (x.ev ρ) n fun l => K (.agg l) G := (rfl)
theorem OpL_store : OpL P ρ G (.store n x y) K = cellsL (y.ev ρ).cells fun l => l.length = n ∧ writeL G (x.ev ρ) l fun G' => K (.tup []) G' := (rfl)
theorem OpL_nilChk : OpL P ρ G (.nilChk x) K = chkL (x.ev ρ) (atG K G) := (rfl)
theorem OpL_bin {op : BinOp} {g : Bool} {t : TypeId} : OpL P ρ G (.bin op g t x y) K = binL P op g t (x.ev ρ) (y.ev ρ) (atG K G) := (rfl)
theorem OpL_un {op : UnOp} : OpL P ρ G (.un op x) K = unL op (x.ev ρ) (atG K G) := (rfl)
theorem OpL_cvInt {k : IntKind} : OpL P ρ G (.cvInt k x) K = cvL k (x.ev ρ) (atG K G) := (rfl)
theorem OpL_cvStr : OpL P ρ G (.cvStr x) K = bytL G (x.ev ρ) fun l => ∃ bs : List UInt8, l = bs.map LV.b ∧ K (.str bs) G := (rfl)
theorem OpL_cvSame : OpL P ρ G (.cvSame x) K = strL (x.ev ρ) fun l => K (.str l) G := (rfl)
theorem OpL_cvBytes : OpL P ρ G (.cvBytes x) K = strL (x.ev ρ) fun l => K (.dy G.length 0) (G ++ [.dyn (l.map LV.b) l.length 1 0 0]) := (rfl)
theorem OpL_mkFunc {g : Nat} {fs gs : List Lx} : OpL P ρ G (.mkFunc g fs gs) K = K (.fn (.func g) (fs.map (·.ev ρ)) (gs.map (·.ev ρ))) G := (rfl)
theorem OpL_mkSl : OpL P ρ G (.mkSl size z a b) K = mkSlL (a.ev ρ) (b.ev ρ) fun n => z.length = size ∧ K (.dy G.length 0) (G ++ [.dyn (repL z n) n size 0 0]) := by
  simp only [OpL, mkSlL]
  cases a.ev ρ <;> cases b.ev ρ <;> rfl
theorem bndL_some {x : Lx} {d : Nat} {K : Nat → Prop} : bndL ρ d (some x) K = bndV (x.ev ρ) K := (rfl)
theorem bndL_none {d : Nat} {K : Nat → Prop} : bndL ρ d none K = K d := (rfl)
theorem OpL_slStr : OpL P ρ G (.slStr x lo hi) K = strL (x.ev ρ) fun l => bndL ρ 0 lo fun a => bndL ρ l.length hi fun b => a ≤ b ∧ b ≤ l.length ∧ K (.str ((l.drop a).take (b - a))) G := (rfl)
theorem OpL_slSl : OpL P ρ G (.slSl size x lo hi) K = slL G size (x.ev ρ) (fun k => bndL ρ 0 lo k) (fun d k => bndL ρ d hi k) (atG K G) := by
  simp only [OpL, slL, atD]
  cases x.ev ρ <;> try rfl
  all_goals (cases G[_]? <;> try rfl)
theorem OpL_slSl3 : OpL P ρ G (.slSl3 size x lo hi y) K = sl3L G size (x.ev ρ) (fun k => bndL ρ 0 lo k) (fun d k => bndL ρ d hi k) (fun k => bndL ρ 0 (some y) k) (atG K G) := by
  simp only [OpL, sl3L, atD]
  cases x.ev ρ <;> try rfl
  all_goals (cases G[_]? <;> try rfl)
def max3L (mx : Bool) (x y z : LV) (K : LV → Prop) : Prop := match x with
  | .i a => match y with
    | .i b => match z with
      | .i d => K (.i (match mx with | true => max (max a b) d | false => min (min a b) d))
      | _ => False
    | _ => False
  | _ => False
def ixPL (len size : Nat) (x i : LV) (K : LV → Prop) : Prop := match i with
  | .i n => 0 ≤ n ∧ n < len ∧ offL (n.toNat * size) x K
  | _ => False
def ixAL (g : Bool) (len size : Nat) (x i : LV) (K : LV → Prop) : Prop := match i with
  | .i n => 0 ≤ n ∧ n < len ∧ fldL g size (n.toNat * size) x K
  | _ => False
theorem OpL_max3 {g : Bool} {x y z : Lx} : OpL P ρ G (.max3 g x y z) K = max3L g (x.ev ρ) (y.ev ρ) (z.ev ρ) (atG K G) := (rfl)
theorem OpL_ixAddrArr {len size : Nat} {x i : Lx} : OpL P ρ G (.ixAddrArr len size x i) K = ixPL len size (x.ev ρ) (i.ev ρ) (atG K G) := (rfl)
theorem OpL_ixArr {g : Bool} {len size : Nat} {x i : Lx} : OpL P ρ G (.ixArr g len size x i) K = ixAL g len size (x.ev ρ) (i.ev ρ) (atG K G) := (rfl)
theorem OpL_lenArr {n : Nat} {x : Lx} : OpL P ρ G (.lenArr n x) K = atG K G (.i n) := (rfl)
theorem OpL_fieldAddr : OpL P ρ G (.fieldAddr off x) K = offL off (x.ev ρ) (atG K G) := (rfl)
theorem OpL_field {g : Bool} : OpL P ρ G (.field g n off x) K = fldL g n off (x.ev ρ) (atG K G) := (rfl)
theorem OpL_ixAddr : OpL P ρ G (.ixAddr size x i) K = ixL G size (x.ev ρ) (i.ev ρ) (atG K G) := by
  simp only [OpL, ixL, ixV, atD]
  cases i.ev ρ <;> try rfl
theorem OpL_ixStr : OpL P ρ G (.ixStr x i) K = ixSL (x.ev ρ) (i.ev ρ) (atG K G) := (rfl)
theorem OpL_extract : OpL P ρ G (.extract n x) K = tupL n (x.ev ρ) (atG K G) := (rfl)
theorem OpL_lenStr : OpL P ρ G (.lenStr x) K = strL (x.ev ρ) fun l => K (.i l.length) G := (rfl)
theorem OpL_lenSl : OpL P ρ G (.lenSl x) K = lenL G (x.ev ρ) fun n => K (.i n) G := (rfl)
theorem OpL_maxi {g : Bool} : OpL P ρ G (.maxi g x y) K = maxL g (x.ev ρ) (y.ev ρ) (atG K G) := (rfl)
theorem OpL_appZ : OpL P ρ G (.appZ size z s x) K = lenZ (x.ev ρ) fun n => z.length = size ∧ appL G size (s.ev ρ) n (repL z n) K := (rfl)
theorem OpL_appG : OpL P ρ G (.appG size s x) K = rowL G size (x.ev ρ) fun n l => n ≤ 1048576 ∧ appL G size (s.ev ρ) n l K := (rfl)
theorem OpL_copy : OpL P ρ G (.copy size d x) K = rowL G size (x.ev ρ) fun n l => copyL G size (d.ev ρ) n l K := by
  simp only [OpL, copyL, atD]
  congr 1
theorem OpL_clear : OpL P ρ G (.clear size z x) K = clearL G size z (x.ev ρ) fun G' => K .any G' := by
  simp only [OpL, clearL, atD]
  congr 1
theorem OpL_callV {args : List Lx} : OpL P ρ G (.callV f args) K = goL P (f.ev ρ) (args.map (·.ev ρ)) G K := (rfl)
end byOps

/-! ### Opened at known values alone -/
section opened
variable {P : Program} {G : LHeap} {p k i n size lo len off esz : Nat} {l r new : List LV} {K : List LV → Prop} {K1 : LV → Prop} {KG : LHeap → Prop} {KN : Nat → Prop} {KR : Nat → List LV → Prop} {KV : LV → LHeap → Prop} {KS : List UInt8 → Prop} {lof mxf : (Nat → Prop) → Prop} {hif : Nat → (Nat → Prop) → Prop}
theorem atC_some {l : List LV} {st : Nat} {K : List LV → Nat → Prop} : atC (some (.cells l st)) K = K l st := (rfl)
theorem atD_some {l : List LV} {len esz ver st : Nat} {K : List LV → Nat → Nat → Nat → Nat → Prop} : atD (some (.dyn l len esz ver st)) K = K l len esz ver st := (rfl)
theorem cellsL_some : cellsL (some l) K = K l := (rfl)
theorem pickL_true {a b : LV} : pickL (.bool true) a b K1 = K1 a := by cases a <;> cases b <;> simp [pickL, brL]
theorem pickL_false {a b : LV} : pickL (.bool false) a b K1 = K1 b := by cases a <;> cases b <;> simp [pickL, brL]
theorem pickL_and {t x : Bool} : pickL (.bool t) (.bool x) (.bool false) K1 = K1 (.bool (t && x)) := by cases t <;> rfl
theorem pickL_or {t x : Bool} : pickL (.bool t) (.bool true) (.bool x) K1 = K1 (.bool (t || x)) := by cases t <;> rfl
theorem chkL_ptr : chkL (.ptr p i) K1 = K1 (.ptr p i) := (rfl)
theorem chkL_cptr : chkL (.cptr l i) K1 = K1 (.cptr l i) := (rfl)
theorem chkL_fn {f : Nat} {a b : List LV} : chkL (.fn (.func f) a b) K1 = K1 (.fn (.func f) a b) := (rfl)
theorem strL_str {l : List UInt8} : strL (.str l) KS = KS l := (rfl)
theorem mkSlL_i {a b : Int} : mkSlL (.i a) (.i b) KN = (a = b ∧ 0 ≤ a ∧ a ≤ 1048576 ∧ KN a.toNat) := (rfl)
theorem bndV_i {a : Int} : bndV (.i a) KN = (0 ≤ a ∧ KN a.toNat) := (rfl)
theorem bndV_u {a : UInt64} : bndV (.u a) KN = KN a.toNat := (rfl)
theorem slL_nil : slL G size .nilSl lof hif K1 = (lof fun a => hif 0 fun b => a = 0 ∧ b = 0 ∧ K1 .nilSl) := (rfl)
theorem slL_dy : slL G size (.dy p k) lof hif K1 = (atD G[p]? fun _ len esz ver _ => k = ver ∧ esz = size ∧ lof fun a => hif len fun b => a ≤ b ∧ b ≤ len ∧ K1 (.vw p k a (b - a))) := (rfl)
theorem slL_vw : slL G size (.vw p k lo len) lof hif K1 = (atD G[p]? fun _ _ esz ver _ => k = ver ∧ esz = size ∧ lof fun a => hif len fun b => a ≤ b ∧ b ≤ len ∧ K1 (.vw p k (lo + a) (b - a))) := (rfl)
theorem slL_lst : slL G size (.lst l len esz) lof hif K1 = (esz = size ∧ lof fun a => hif len fun b => a ≤ b ∧ b ≤ len ∧ K1 (.lst ((l.drop (a * esz)).take ((b - a) * esz)) (b - a) esz)) := (rfl)
theorem sl3L_dy : sl3L G size (.dy p k) lof hif mxf K1 = (atD G[p]? fun _ len esz ver _ => k = ver ∧ esz = size ∧ lof fun a => hif len fun b => mxf fun m => 0 < len ∧ a ≤ b ∧ b ≤ m ∧ m ≤ len ∧ K1 (.vw p k a (b - a))) := (rfl)
theorem sl3L_lst : sl3L G size (.lst l len esz) lof hif mxf K1 = (esz = size ∧ lof fun a => hif len fun b => mxf fun m => 0 < len ∧ a ≤ b ∧ b ≤ m ∧ m ≤ len ∧ K1 (.lst ((l.drop (a * esz)).take ((b - a) * esz)) (b - a) esz)) := (rfl)
theorem offL_ptr : offL off (.ptr p i) K1 = K1 (.ptr p (i + off)) := (rfl)
theorem offL_dptr : offL off (.dptr p k i) K1 = K1 (.dptr p k (i + off)) := (rfl)
theorem offL_cptr : offL off (.cptr l i) K1 = K1 (.cptr l (i + off)) := (rfl)
theorem fldL_true : fldL true n off (.agg l) K1 = (off + n ≤ l.length ∧ K1 (.agg ((l.drop off).take n))) := (rfl)
theorem fldL_false : fldL false n off (.agg l) K1 = nthL l off K1 := (rfl)
theorem ixL_i {x : LV} {n : Int} : ixL G size x (.i n) K1 = ixV G size x n K1 := (rfl)
theorem ixV_dy {n : Int} : ixV G size (.dy p k) n K1 = (atD G[p]? fun _ len esz ver _ => k = ver ∧ esz = size ∧ 0 ≤ n ∧ n < len ∧ K1 (.dptr p k (n.toNat * size))) := (rfl)
theorem ixV_vw {n : Int} : ixV G size (.vw p k lo len) n K1 = (atD G[p]? fun _ _ esz ver _ => k = ver ∧ esz = size ∧ 0 ≤ n ∧ n < len ∧ K1 (.dptr p k ((lo + n.toNat) * size))) := (rfl)
theorem ixV_lst {n : Int} : ixV G size (.lst l len esz) n K1 = (esz = size ∧ 0 ≤ n ∧ n < len ∧ K1 (.cptr l (n.toNat * size))) := (rfl)
theorem ixSL_i {l : List UInt8} {n : Int} : ixSL (.str l) (.i n) K1 = (0 ≤ n ∧ n < l.length ∧ K1 (.b (l.getD n.toNat 0))) := (rfl)
theorem ixSL_b {l : List UInt8} {n : UInt8} : ixSL (.str l) (.b n) K1 = (n.toNat < l.length ∧ K1 (.b (l.getD n.toNat 0))) := (rfl)
theorem ixSL_u {l : List UInt8} {n : UInt64} : ixSL (.str l) (.u n) K1 = (n.toNat < l.length ∧ K1 (.b (l.getD n.toNat 0))) := (rfl)
theorem tupL_tup : tupL i (.tup l) K1 = nthL l i K1 := (rfl)
theorem max3L_t {a b d : Int} : max3L true (.i a) (.i b) (.i d) K1 = K1 (.i (max (max a b) d)) := (rfl)
theorem max3L_f {a b d : Int} : max3L false (.i a) (.i b) (.i d) K1 = K1 (.i (min (min a b) d)) := (rfl)
theorem ixPL_i {len size : Nat} {x : LV} {n : Int} : ixPL len size x (.i n) K1 = (0 ≤ n ∧ n < len ∧ offL (n.toNat * size) x K1) := (rfl)
theorem ixAL_i {g : Bool} {len size : Nat} {x : LV} {n : Int} : ixAL g len size x (.i n) K1 = (0 ≤ n ∧ n < len ∧ fldL g size (n.toNat * size) x K1) := (rfl)
theorem iiL_and {a b : Int} : iiL .and a b K1 = (0 ≤ a ∧ a < 9223372036854775808 ∧ 0 ≤ b ∧ b < 9223372036854775808 ∧ K1 (.i (a.toNat &&& b.toNat : Nat))) := (rfl)
theorem iiL_or {a b : Int} : iiL .or a b K1 = (0 ≤ a ∧ a < 9223372036854775808 ∧ 0 ≤ b ∧ b < 9223372036854775808 ∧ K1 (.i (a.toNat ||| b.toNat : Nat))) := (rfl)
theorem maxL_it {a b : Int} : maxL true (.i a) (.i b) K1 = K1 (.i (max a b)) := (rfl)
theorem maxL_if {a b : Int} : maxL false (.i a) (.i b) K1 = K1 (.i (min a b)) := (rfl)
theorem maxL_ut {a b : UInt64} : maxL true (.u a) (.u b) K1 = K1 (.u (if a < b then b else a)) := (rfl)
theorem maxL_uf {a b : UInt64} : maxL false (.u a) (.u b) K1 = K1 (.u (if b < a then b else a)) := (rfl)
theorem lenZ_i {n : Int} : lenZ (.i n) KN = (0 ≤ n ∧ n ≤ 1048576 ∧ KN n.toNat) := (rfl)
theorem copyL_dy {n : Nat} : copyL G size (.dy p k) n l KV = (atD G[p]? fun r len esz ver st => k = ver ∧ esz = size ∧ KV (.i (min n len : Nat)) (G.set p (.dyn (layLV r 0 (l.take (min n len * size))) len esz ver (st + 1)))) := (rfl)
theorem copyL_vw {n : Nat} : copyL G size (.vw p k lo len) n l KV = (atD G[p]? fun r len0 esz ver st => k = ver ∧ esz = size ∧ (lo + len) * size ≤ r.length ∧ KV (.i (min n len : Nat)) (G.set p (.dyn (layLV r (lo * size) (l.take (min n len * size))) len0 esz ver (st + 1)))) := (rfl)
theorem clearL_vw {z : List LV} {KH : LHeap → Prop} : clearL G size z (.vw p k lo len) KH = (atD G[p]? fun r len0 esz ver st => k = ver ∧ esz = size ∧ z.length = size ∧ (lo + len) * size ≤ r.length ∧ KH (G.set p (.dyn (layLV r (lo * size) (repL z len)) len0 esz ver (st + 1)))) := (rfl)
theorem goL_fn {g : Nat} {a b args : List LV} : goL P (.fn (.func g) a b) args G KV = CallL P (.fn g) (a ++ args ++ b) G KV := (rfl)
theorem goL_yield {b args : List LV} : goL P (.fn (.yield p) [] b) args G KV = CallL P (.yield p) args G KV := (rfl)
theorem readL_ptr : readL G (.ptr p i) n K = atC G[p]? fun l _ => i + n ≤ l.length ∧ K ((l.drop i).take n) := by
  simp only [readL, atC]; cases G[p]? <;> try rfl
theorem readL_dptr : readL G (.dptr p k i) n K = atD G[p]? fun l _ _ ver _ => k = ver ∧ i + n ≤ l.length ∧ K ((l.drop i).take n) := by
  simp only [readL, atD]; cases G[p]? <;> try rfl
theorem readL_cptr : readL G (.cptr l i) n K = (i + n ≤ l.length ∧ K ((l.drop i).take n)) := (rfl)
theorem read1_ptr : read1 G (.ptr p i) K1 = atC G[p]? fun l _ => nthL l i K1 := by
  simp only [read1, atC]; cases G[p]? <;> try rfl
theorem read1_dptr : read1 G (.dptr p k i) K1 = atD G[p]? fun l _ _ ver _ => k = ver ∧ nthL l i K1 := by
  simp only [read1, atD]; cases G[p]? <;> try rfl
theorem read1_cptr : read1 G (.cptr l i) K1 = nthL l i K1 := (rfl)
theorem writeL_ptr : writeL G (.ptr p i) r KG = atC G[p]? fun l st => i + r.length ≤ l.length ∧ KG (G.set p (.cells (layLV l i r) (st + 1))) := by
  simp only [writeL, atC]; cases G[p]? <;> try rfl
theorem writeL_dptr : writeL G (.dptr p k i) r KG = atD G[p]? fun l len esz ver st => k = ver ∧ i + r.length ≤ l.length ∧ KG (G.set p (.dyn (layLV l i r) len esz ver (st + 1))) := by
  simp only [writeL, atD]; cases G[p]? <;> try rfl
theorem rowL_nil : rowL G size .nilSl KR = KR 0 [] := (rfl)
theorem rowL_dy : rowL G size (.dy p k) KR = atD G[p]? fun l len esz ver _ => k = ver ∧ esz = size ∧ KR len l := by
  simp only [rowL, atD]; cases G[p]? <;> try rfl
theorem rowL_vw : rowL G size (.vw p k lo len) KR = atD G[p]? fun l _ esz ver _ => k = ver ∧ esz = size ∧ lo * esz + len * esz ≤ l.length ∧ KR len ((l.drop (lo * esz)).take (len * esz)) := by
  simp only [rowL, atD]; cases G[p]? <;> try rfl
theorem rowL_lst : rowL G size (.lst l len esz) KR = (esz = size ∧ KR len l) := (rfl)
theorem rowL_str {s : List UInt8} : rowL G size (.str s) KR = (size = 1 ∧ KR s.length (s.map LV.b)) := (rfl)
theorem bytL_nil : bytL G .nilSl K = K [] := (rfl)
theorem bytL_dy : bytL G (.dy p k) K = atD G[p]? fun l _ esz ver _ => k = ver ∧ esz = 1 ∧ K l := by
  simp only [bytL, atD]; cases G[p]? <;> try rfl
theorem bytL_lst : bytL G (.lst l len esz) K = (esz = 1 ∧ len ≠ 0 ∧ K l) := (rfl)
theorem lenL_nil : lenL G .nilSl KN = KN 0 := (rfl)
theorem lenL_dy : lenL G (.dy p k) KN = atD G[p]? fun _ len _ ver _ => k = ver ∧ KN len := by
  simp only [lenL, atD]; cases G[p]? <;> try rfl
theorem lenL_vw : lenL G (.vw p k lo len) KN = atD G[p]? fun _ _ _ ver _ => k = ver ∧ KN len := by
  simp only [lenL, atD]; cases G[p]? <;> try rfl
theorem lenL_lst : lenL G (.lst l len esz) KN = KN len := (rfl)
theorem appL_nil : appL G size .nilSl n new KV = KV (.dy G.length 0) (G ++ [.dyn new n size 0 0]) := (rfl)
theorem appL_dy : appL G size (.dy p k) n new KV = atD G[p]? fun l len esz ver st => k = ver ∧ (esz = size ∧ 0 < esz) ∧ len ≤ 1000000000 ∧ KV (.dy p (ver + 1)) (G.set p (.dyn (l ++ new) (len + n) esz (ver + 1) (st + 1))) := by
  simp only [appL, atD]; cases G[p]? <;> try rfl
theorem appL_vw : appL G size (.vw p k lo len) n new KV = atD G[p]? fun l len0 esz ver st => k = ver ∧ (esz = size ∧ lo = 0 ∧ 0 < n) ∧ len ≤ 1000000000 ∧ if (len + n) * esz ≤ l.length then KV (.vw p k 0 (len + n)) (G.set p (.dyn (layLV l (len * esz) new) len0 esz ver (st + 1))) ∧ KV (.dy G.length 0) (G ++ [.dyn (l.take (len * esz) ++ new) (len + n) size 0 0]) else len = len0 ∧ 0 < esz ∧ KV (.dy p (ver + 1)) (G.set p (.dyn (l ++ new) (len + n) esz (ver + 1) (st + 1))) ∧ KV (.dy G.length 0) (G ++ [.dyn (l ++ new) (len + n) size 0 0]) := by
  simp only [appL, atD]; cases G[p]? <;> try rfl
variable {op : BinOp} {g : Bool} {t : TypeId}
theorem binL_uu {a b : UInt64} : binL P op g t (.u a) (.u b) K1 = uuL op a b K1 := (rfl)
theorem binL_ii {a b : Int} : binL P op g t (.i a) (.i b) K1 = iiL op a b K1 := (rfl)
theorem binL_bb {a b : UInt8} : binL P op g t (.b a) (.b b) K1 = bbL op a b K1 := (rfl)
theorem binL_ss {a b : List UInt8} : binL P op g t (.str a) (.str b) K1 = ssL op a b K1 := (rfl)
theorem binL_kk {k k' : IntKind} {a b : Int} : binL P op g t (.int k a) (.int k' b) K1 = (k = k' ∧ kkL op a b K1) := (rfl)
theorem binL_shl {a : UInt64} {s : Int} : binL P .shl g t (.u a) (.i s) K1 = (0 ≤ s ∧ K1 (.u (shlU a s.toNat))) := (rfl)
theorem binL_shr {a : UInt64} {s : Int} : binL P .shr g t (.u a) (.i s) K1 = (0 ≤ s ∧ K1 (.u (shrU a s.toNat))) := (rfl)
theorem binL_ishl {a : Int} {s : UInt64} : binL P .shl g t (.i a) (.u s) K1 = (0 ≤ a ∧ s.toNat ≤ 64 ∧ inI (a * 2 ^ s.toNat) ∧ K1 (.i (a * 2 ^ s.toNat))) := (rfl)
theorem binL_ishr {a : Int} {s : UInt64} : binL P .shr g t (.i a) (.u s) K1 = (0 ≤ a ∧ s.toNat ≤ 64 ∧ K1 (.i (a / 2 ^ s.toNat))) := (rfl)
theorem binL_oeq {a b : Bool} : binL P .eql g t (.bool a) (.bool b) K1 = (eqA P g t (.bool a) (.bool b) = some (a == b) ∧ K1 (.bool (a == b))) := (rfl)
theorem binL_one {a b : Bool} : binL P .neq g t (.bool a) (.bool b) K1 = (eqA P g t (.bool a) (.bool b) = some (a == b) ∧ K1 (.bool (!(a == b)))) := (rfl)
theorem binL_nn : binL P op g t .nilPtr .nilPtr K1 = nilL P op g t .nilPtr .nilPtr true K1 := (rfl)
theorem binL_pn : binL P op g t (.ptr p i) .nilPtr K1 = nilL P op g t (.ptr 0 0 0) .nilPtr false K1 := (rfl)
theorem binL_sn : binL P op g t .nilSl .nilSl K1 = nilL P op g t .nilSl .nilSl true K1 := (rfl)
theorem unL_not {b : Bool} : unL .not (.bool b) K1 = K1 (.bool (!b)) := (rfl)
theorem unL_negu {a : UInt64} : unL .neg (.u a) K1 = K1 (.u (subU 0 a)) := (rfl)
theorem unL_negi {a : Int} : unL .neg (.i a) K1 = (inI (-a) ∧ K1 (.i (-a))) := (rfl)
theorem unL_xor {a : UInt64} : unL .xor (.u a) K1 = K1 (.u (notU a)) := (rfl)
theorem cvL_uu {a : UInt64} : cvL .u64 (.u a) K1 = K1 (.u a) := (rfl)
theorem cvL_ui {a : Int} : cvL .u64 (.i a) K1 = K1 (.u (iU a)) := (rfl)
theorem cvL_ub {a : UInt8} : cvL .u64 (.b a) K1 = K1 (.u (bU a)) := (rfl)
theorem cvL_iu {a : UInt64} : cvL .i64 (.u a) K1 = (a.toNat < 9223372036854775808 ∧ K1 (.i a.toNat)) := (rfl)
theorem cvL_ii {a : Int} : cvL .i64 (.i a) K1 = (inI a ∧ K1 (.i a)) := (rfl)
theorem cvL_ib {a : UInt8} : cvL .i64 (.b a) K1 = K1 (.i a.toNat) := (rfl)
theorem cvL_bu {a : UInt64} : cvL .u8 (.u a) K1 = K1 (.b (uB a)) := (rfl)
theorem cvL_bi {a : Int} : cvL .u8 (.i a) K1 = K1 (.b (iB a)) := (rfl)
theorem cvL_bb {a : UInt8} : cvL .u8 (.b a) K1 = K1 (.b a) := (rfl)
theorem cvL_i32 {a : Int} : cvL .i32 (.i a) K1 = K1 (.int .i32 (w32 a)) := (rfl)
theorem cvL_ik {k : IntKind} {a : Int} : cvL .i64 (.int k a) K1 = (inI a ∧ K1 (.i a)) := (rfl)
theorem binL_lne {l : List LV} {len esz : Nat} : binL P .eql g t (.lst l len esz) .nilSl K1 = (eqA P g t .nilSl .nilSl = some true ∧ K1 (.bool false) ∧ (len = 0 → K1 (.bool true))) := (rfl)
theorem binL_lnn {l : List LV} {len esz : Nat} : binL P .neq g t (.lst l len esz) .nilSl K1 = (eqA P g t .nilSl .nilSl = some true ∧ K1 (.bool true) ∧ (len = 0 → K1 (.bool false))) := (rfl)
theorem binL_aa {op : BinOp} {g : Bool} {t : TypeId} {l r : List LV} : binL P op g t (.agg l) (.agg r) K1 = aggL P op g t l r K1 := (rfl)
theorem cvL_bk {k : IntKind} {a : Int} : cvL .u8 (.int k a) K1 = K1 (.b (iB a)) := (rfl)
end opened
/-! ### The code's words -/
section code
variable {P : Program} {f n : Nat} {ro : Option Nat} {ρ ρ' : LEnv} {D : List Nat} {G G' : LHeap} {Q : Post} {a b c : LC} {x : Lx} {id i t d : Nat} {l : List LI} {ds : List (LI × List (LI × Bool))} {cs : List (LI × Bool)} {K : LEnv → LHeap → Prop} {KV : LV → LHeap → Prop} {KL : List LV → Prop} {KG : LHeap → Prop} {Nx : LEnv → List Nat → LHeap → Prop} {rs : List RRes} {o : LOp} {od : Option Nat} {v w : LV} {vs : List LV} {it : LI}
theorem wp_skip : wp P f n ro .skip ρ D G Q = Q .normal ρ D G := (rfl)
theorem wp_ops : wp P f n ro (.ops l) ρ D G Q = OpsL P l ρ G (norQ Q D) := (rfl)
theorem wp_seq : wp P f n ro (.seq a b) ρ D G Q = wp P f n ro a ρ D G (seqQ P f n ro b Q) := (rfl)
theorem wp_cond : wp P f n ro (.cond x a b) ρ D G Q = brV (x.ev ρ) (wp P f n ro a ρ D G Q) (wp P f n ro b ρ D G Q) := (rfl)
theorem wp_block : wp P f n ro (.block id c) ρ D G Q = wp P f n ro c ρ D G (blkQ id Q) := (rfl)
theorem wp_draw : wp P f n ro (.draw ds) ρ D G Q = DrL P ds ρ G (norQ Q D) := (rfl)
theorem wp_exit : wp P f n ro (.exit id) ρ D G Q = Q (.exit id) ρ D G := (rfl)
theorem wp_scope : wp P f n ro (.scope c) ρ D G Q = wp P f n ro c ρ D G Q := (rfl)
theorem wp_label : wp P f n ro .label ρ D G Q = Q .normal ρ D G := (rfl)
theorem wp_ret : wp P f n ro .ret ρ D G Q = Q .ret ρ D G := (rfl)
theorem wp_stuck : wp P f n ro .stuck ρ D G Q = False := (rfl)
theorem wp_loop : wp P f n ro (.loop c) ρ D G Q = W P f n (.loop c) ro ρ D G Q := (rfl)
theorem wp_range {ps : List Nat} : wp P f n ro (.rangeF x ps a b) ρ D G Q = W P f n (.rangeF x ps a b) ro ρ D G Q := (rfl)
theorem seqQ_n : seqQ P f n ro b Q .normal ρ D G = wp P f n ro b ρ D G Q := (rfl)
theorem seqQ_e : seqQ P f n ro b Q (.exit i) ρ D G = Q (.exit i) ρ D G := (rfl)
theorem seqQ_r : seqQ P f n ro b Q .ret ρ D G = Q .ret ρ D G := (rfl)
theorem blkQ_n : blkQ id Q .normal ρ D G = Q .normal ρ D G := (rfl)
theorem blkQ_e : blkQ id Q (.exit i) ρ D G = if i = id then Q .normal ρ D G else Q (.exit i) ρ D G := (rfl)
theorem blkQ_r : blkQ id Q .ret ρ D G = Q .ret ρ D G := (rfl)
theorem nxQ_n : nxQ Nx Q .normal ρ D G = Nx ρ D G := (rfl)
theorem nxQ_e : nxQ Nx Q (.exit i) ρ D G = Q (.exit i) ρ D G := (rfl)
theorem nxQ_r : nxQ Nx Q .ret ρ D G = Q .ret ρ D G := (rfl)
theorem endQ_n : endQ rs KV .normal ρ D G = takeL D G (takK ρ rs KV) := (rfl)
theorem endQ_r : endQ rs KV .ret ρ D G = takeL D G (takK ρ rs KV) := (rfl)
theorem endQ_e : endQ rs KV (.exit i) ρ D G = False := (rfl)
theorem norQ_app : norQ Q D ρ G = Q .normal ρ D G := (rfl)
theorem takeL_nil : takeL [] G KG = KG G := (rfl)
theorem takeL_cons : takeL (d :: D) G KG = takM G[d]? (takeL D (G.set d (.defd false)) KG) := (rfl)
theorem takM_some {A : Prop} : takM (some (.defd true)) A = A := (rfl)
theorem takK_app : takK ρ rs KV G = resL ρ G rs (endK KV G) := (rfl)
theorem endK_app : endK KV G vs = KV (oneL vs) G := (rfl)
theorem resL_nil : resL ρ G [] KL = KL [] := (rfl)
theorem resL_tmp : resL ρ G (.tmp t :: rs) KL = resL ρ G rs (tmpK ρ t KL) := (rfl)
theorem resL_c1 : resL ρ G (.cell1 t :: rs) KL = read1 G (lk ρ t) (c1K ρ G rs KL) := (rfl)
theorem resL_cN : resL ρ G (.cellN t n :: rs) KL = readL G (lk ρ t) n (cnK ρ G rs KL) := (rfl)
theorem tmpK_app : tmpK ρ t KL vs = KL (lk ρ t :: vs) := (rfl)
theorem conK_app : conK v KL vs = KL (v :: vs) := (rfl)
theorem c1K_app : c1K ρ G rs KL v = resL ρ G rs (conK v KL) := (rfl)
theorem cnK_app : cnK ρ G rs KL vs = resL ρ G rs (conK (.agg vs) KL) := (rfl)
theorem oneL_1 : oneL [v] = v := (rfl)
theorem oneL_0 : oneL [] = .tup [] := (rfl)
theorem oneL_2 : oneL (v :: w :: vs) = .tup (v :: w :: vs) := (rfl)
theorem OpsL_nil : OpsL P [] ρ G K = K ρ G := (rfl)
theorem OpsL_cons : OpsL P (it :: l) ρ G K = ItL P it ρ G (opsK P l K) := (rfl)
theorem opsK_app : opsK P l K ρ G = OpsL P l ρ G K := (rfl)
theorem ItL_n : ItL P ⟨od, none, o⟩ ρ G K = OpL P ρ G o (itK ρ od K) := (rfl)
theorem ItL_t : ItL P ⟨od, some (t, true), o⟩ ρ G K = brG (lk ρ t) (OpL P (setL t (.bool true) ρ) G o (itK (setL t (.bool true) ρ) od K)) (itK (setL t (.bool false) ρ) od K (.tup []) G) (itK ρ od K (.tup []) G) := (rfl)
theorem ItL_f : ItL P ⟨od, some (t, false), o⟩ ρ G K = brG (lk ρ t) (itK (setL t (.bool true) ρ) od K (.tup []) G) (OpL P (setL t (.bool false) ρ) G o (itK (setL t (.bool false) ρ) od K)) (itK ρ od K (.tup []) G) := (rfl)
theorem itK_some : itK ρ (some d) K v G = K ((d, v) :: ρ) G := (rfl)
theorem itK_none : itK ρ none K v G = K ρ G := (rfl)
theorem atG_app : atG KV G v = KV v G := (rfl)
theorem DrL_nil : DrL P [] ρ G K = K ρ G := (rfl)
theorem DrL_cons : DrL P ((it, cs) :: ds) ρ G K = ItL P it ρ G (drK P cs ds ρ G K) := (rfl)
theorem drK_app : drK P cs ds ρ G K ρ' G' = (cksL ρ G G' cs ∧ DrL P ds ρ' G' K) := (rfl)
theorem ev_t : (Lx.t i).ev ρ = lk ρ i := (rfl)
theorem ev_c : (Lx.c v).ev ρ = v := (rfl)
theorem argsL_nil : argsL [] i = [] := (rfl)
theorem argsL_cons : argsL (v :: vs) i = (i, v) :: argsL vs (i + 1) := (rfl)
theorem setL_cons : setL t v ((d, w) :: ρ) = if t = d then (d, v) :: ρ else (d, w) :: setL t v ρ := (rfl)
end code
section nums
variable {K : LV → Prop}
theorem uuL_add {a b : UInt64} : uuL .add a b K = K (.u (addU a b)) := (rfl)
theorem uuL_sub {a b : UInt64} : uuL .sub a b K = K (.u (subU a b)) := (rfl)
theorem uuL_mul {a b : UInt64} : uuL .mul a b K = K (.u (mulU a b)) := (rfl)
theorem uuL_quo {a b : UInt64} : uuL .quo a b K = (b ≠ 0 ∧ K (.u (divU a b))) := (rfl)
theorem uuL_rem {a b : UInt64} : uuL .rem a b K = (b ≠ 0 ∧ K (.u (modU a b))) := (rfl)
theorem uuL_shl {a b : UInt64} : uuL .shl a b K = K (.u (shlU a b.toNat)) := (rfl)
theorem uuL_shr {a b : UInt64} : uuL .shr a b K = K (.u (shrU a b.toNat)) := (rfl)
theorem uuL_andNot {a b : UInt64} : uuL .andNot a b K = K (.u (andU a (notU b))) := (rfl)
theorem uuL_and {a b : UInt64} : uuL .and a b K = K (.u (andU a b)) := (rfl)
theorem uuL_or {a b : UInt64} : uuL .or a b K = K (.u (orU a b)) := (rfl)
theorem uuL_xor {a b : UInt64} : uuL .xor a b K = K (.u (xorU a b)) := (rfl)
theorem uuL_eql {a b : UInt64} : uuL .eql a b K = K (.bool (decide (a = b))) := (rfl)
theorem uuL_neq {a b : UInt64} : uuL .neq a b K = K (.bool (decide (a ≠ b))) := (rfl)
theorem uuL_lss {a b : UInt64} : uuL .lss a b K = K (.bool (decide (a < b))) := (rfl)
theorem uuL_leq {a b : UInt64} : uuL .leq a b K = K (.bool (decide (a ≤ b))) := (rfl)
theorem uuL_gtr {a b : UInt64} : uuL .gtr a b K = K (.bool (decide (b < a))) := (rfl)
theorem uuL_geq {a b : UInt64} : uuL .geq a b K = K (.bool (decide (b ≤ a))) := (rfl)
theorem bbL_add {a b : UInt8} : bbL .add a b K = K (.b (addB a b)) := (rfl)
theorem bbL_sub {a b : UInt8} : bbL .sub a b K = K (.b (subB a b)) := (rfl)
theorem bbL_and {a b : UInt8} : bbL .and a b K = K (.b (andB a b)) := (rfl)
theorem bbL_or {a b : UInt8} : bbL .or a b K = K (.b (orB a b)) := (rfl)
theorem bbL_eql {a b : UInt8} : bbL .eql a b K = K (.bool (decide (a = b))) := (rfl)
theorem bbL_neq {a b : UInt8} : bbL .neq a b K = K (.bool (decide (a ≠ b))) := (rfl)
theorem bbL_lss {a b : UInt8} : bbL .lss a b K = K (.bool (decide (a < b))) := (rfl)
theorem bbL_leq {a b : UInt8} : bbL .leq a b K = K (.bool (decide (a ≤ b))) := (rfl)
theorem bbL_gtr {a b : UInt8} : bbL .gtr a b K = K (.bool (decide (b < a))) := (rfl)
theorem bbL_geq {a b : UInt8} : bbL .geq a b K = K (.bool (decide (b ≤ a))) := (rfl)
theorem iiL_add {a b : Int} : iiL .add a b K = (inI (a + b) ∧ K (.i (a + b))) := (rfl)
theorem iiL_sub {a b : Int} : iiL .sub a b K = (inI (a - b) ∧ K (.i (a - b))) := (rfl)
theorem iiL_mul {a b : Int} : iiL .mul a b K = (inI (a * b) ∧ K (.i (a * b))) := (rfl)
theorem iiL_quo {a b : Int} : iiL .quo a b K = (b ≠ 0 ∧ inI (a.tdiv b) ∧ K (.i (a.tdiv b))) := (rfl)
theorem iiL_rem {a b : Int} : iiL .rem a b K = (b ≠ 0 ∧ K (.i (a.tmod b))) := (rfl)
theorem iiL_shl {a b : Int} : iiL .shl a b K = (0 ≤ a ∧ 0 ≤ b ∧ b ≤ 64 ∧ inI (a * 2 ^ b.toNat) ∧ K (.i (a * 2 ^ b.toNat))) := (rfl)
theorem iiL_shr {a b : Int} : iiL .shr a b K = (0 ≤ a ∧ 0 ≤ b ∧ b ≤ 64 ∧ K (.i (a / 2 ^ b.toNat))) := (rfl)
theorem iiL_eql {a b : Int} : iiL .eql a b K = K (.bool (decide (a = b))) := (rfl)
theorem iiL_neq {a b : Int} : iiL .neq a b K = K (.bool (decide (a ≠ b))) := (rfl)
theorem iiL_lss {a b : Int} : iiL .lss a b K = K (.bool (decide (a < b))) := (rfl)
theorem iiL_leq {a b : Int} : iiL .leq a b K = K (.bool (decide (a ≤ b))) := (rfl)
theorem iiL_gtr {a b : Int} : iiL .gtr a b K = K (.bool (decide (b < a))) := (rfl)
theorem iiL_geq {a b : Int} : iiL .geq a b K = K (.bool (decide (b ≤ a))) := (rfl)
theorem kkL_eql {a b : Int} : kkL .eql a b K = K (.bool (decide (a = b))) := (rfl)
theorem kkL_neq {a b : Int} : kkL .neq a b K = K (.bool (decide (a ≠ b))) := (rfl)
theorem kkL_lss {a b : Int} : kkL .lss a b K = K (.bool (decide (a < b))) := (rfl)
theorem kkL_leq {a b : Int} : kkL .leq a b K = K (.bool (decide (a ≤ b))) := (rfl)
theorem kkL_gtr {a b : Int} : kkL .gtr a b K = K (.bool (decide (b < a))) := (rfl)
theorem kkL_geq {a b : Int} : kkL .geq a b K = K (.bool (decide (b ≤ a))) := (rfl)
theorem ssL_add {a b : List UInt8} : ssL .add a b K = (a.length + b.length ≤ 1000000000 ∧ K (.str (a ++ b))) := (rfl)
theorem ssL_eql {a b : List UInt8} : ssL .eql a b K = K (.bool (decide (a = b))) := (rfl)
theorem ssL_neq {a b : List UInt8} : ssL .neq a b K = K (.bool (decide (a ≠ b))) := (rfl)
theorem nilL_eql {P : Program} {g : Bool} {t : TypeId} {a b : AV} {r : Bool} : nilL P .eql g t a b r K = (eqA P g t a b = some r ∧ K (.bool r)) := (rfl)
theorem nilL_neq {P : Program} {g : Bool} {t : TypeId} {a b : AV} {r : Bool} : nilL P .neq g t a b r K = (eqA P g t a b = some r ∧ K (.bool (!r))) := (rfl)
end nums
section congr2
variable {P : Program} {G G' : LHeap} {x x' y y' z z' : LV} {K : LV → LHeap → Prop} {Kv : LV → Prop} {n n' size : Nat}
@[congr] theorem atC_congr {o o' : Option LObj} {K : List LV → Nat → Prop} (h : o = o') : atC o K = atC o' K := by rw [h]
@[congr] theorem atD_congr {o o' : Option LObj} {K : List LV → Nat → Nat → Nat → Nat → Prop} (h : o = o') : atD o K = atD o' K := by rw [h]
@[congr] theorem cellsL_congr {o o' : Option (List LV)} {K : List LV → Prop} (h : o = o') : cellsL o K = cellsL o' K := by rw [h]
@[congr] theorem pickL_congr (h1 : x = x') (h2 : y = y') (h3 : z = z') : pickL x y z Kv = pickL x' y' z' Kv := by rw [h1, h2, h3]
@[congr] theorem chkL_congr (h1 : x = x') : chkL x Kv = chkL x' Kv := by rw [h1]
@[congr] theorem strL_congr {K : List UInt8 → Prop} (h1 : x = x') : strL x K = strL x' K := by rw [h1]
@[congr] theorem mkSlL_congr {K : Nat → Prop} (h1 : x = x') (h2 : y = y') : mkSlL x y K = mkSlL x' y' K := by rw [h1, h2]
@[congr] theorem bndV_congr {K : Nat → Prop} (h1 : x = x') : bndV x K = bndV x' K := by rw [h1]
@[congr] theorem slL_congr {lo : (Nat → Prop) → Prop} {hi : Nat → (Nat → Prop) → Prop} (h1 : G = G') (h2 : x = x') : slL G size x lo hi Kv = slL G' size x' lo hi Kv := by rw [h1, h2]
@[congr] theorem sl3L_congr {lo mx : (Nat → Prop) → Prop} {hi : Nat → (Nat → Prop) → Prop} (h1 : G = G') (h2 : x = x') : sl3L G size x lo hi mx Kv = sl3L G' size x' lo hi mx Kv := by rw [h1, h2]
@[congr] theorem offL_congr (h1 : x = x') : offL n x Kv = offL n x' Kv := by rw [h1]
@[congr] theorem fldL_congr {g : Bool} {m : Nat} (h1 : x = x') : fldL g n m x Kv = fldL g n m x' Kv := by rw [h1]
@[congr] theorem ixL_congr (h1 : G = G') (h2 : x = x') (h3 : y = y') : ixL G size x y Kv = ixL G' size x' y' Kv := by rw [h1, h2, h3]
@[congr] theorem ixV_congr {i i' : Int} (h1 : G = G') (h2 : x = x') (h3 : i = i') : ixV G size x i Kv = ixV G' size x' i' Kv := by rw [h1, h2, h3]
@[congr] theorem ixSL_congr (h2 : x = x') (h3 : y = y') : ixSL x y Kv = ixSL x' y' Kv := by rw [h2, h3]
@[congr] theorem tupL_congr (h1 : x = x') : tupL n x Kv = tupL n x' Kv := by rw [h1]
@[congr] theorem max3L_congr {g : Bool} {z z' : LV} (h1 : x = x') (h2 : y = y') (h3 : z = z') : max3L g x y z Kv = max3L g x' y' z' Kv := by rw [h1, h2, h3]
@[congr] theorem ixPL_congr {len size : Nat} (h2 : x = x') (h3 : y = y') : ixPL len size x y Kv = ixPL len size x' y' Kv := by rw [h2, h3]
@[congr] theorem ixAL_congr {g : Bool} {len size : Nat} (h2 : x = x') (h3 : y = y') : ixAL g len size x y Kv = ixAL g len size x' y' Kv := by rw [h2, h3]
@[congr] theorem maxL_congr {g : Bool} (h2 : x = x') (h3 : y = y') : maxL g x y Kv = maxL g x' y' Kv := by rw [h2, h3]
@[congr] theorem lenZ_congr {K : Nat → Prop} (h1 : x = x') : lenZ x K = lenZ x' K := by rw [h1]
@[congr] theorem clearL_congr {z z' : List LV} {KH : LHeap → Prop} (h1 : G = G') (h2 : x = x') (h3 : z = z') : clearL G size z x KH = clearL G' size z' x' KH := by rw [h1, h2, h3]
@[congr] theorem copyL_congr {l l' : List LV} (h1 : G = G') (h2 : x = x') (h3 : n = n') (h4 : l = l') : copyL G size x n l K = copyL G' size x' n' l' K := by rw [h1, h2, h3, h4]
@[congr] theorem goL_congr {l l' : List LV} (h1 : x = x') (h2 : l = l') (h3 : G = G') : goL P x l G K = goL P x' l' G' K := by rw [h1, h2, h3]
end congr2

/-- Rows of limbs, by value. -/
def LU (a : List UInt64) : LV := .lst (a.map .u) a.length 1
theorem dat_us (a : List UInt64) : dats (a.map LV.u) = true := dats_map (fun _ => rfl) a
theorem dat_bs (a : List UInt8) : dats (a.map LV.b) = true := dats_map (fun _ => rfl) a
theorem scal_us (a : List UInt64) : (a.map LV.u).all LV.scal = true := by induction a with
  | nil => rfl
  | cons x l ih => simp [LV.scal]
theorem dat_us_take (a : List UInt64) (n : Nat) : dats ((a.map LV.u).take n) = true := dats_take n (dat_us a)
theorem dat_us_drop (a : List UInt64) (n : Nat) : dats ((a.map LV.u).drop n) = true := dats_drop n (dat_us a)
theorem dat_bs_take (a : List UInt8) (n : Nat) : dats ((a.map LV.b).take n) = true := dats_take n (dat_bs a)
theorem dat_bs_drop (a : List UInt8) (n : Nat) : dats ((a.map LV.b).drop n) = true := dats_drop n (dat_bs a)
theorem dat_app (a b : List LV) : dats (a ++ b) = (dats a && dats b) := by
  induction a with
  | nil => simp [dats]
  | cons x a ih => simp [dats, ih, Bool.and_assoc]
theorem layLV_zero (l r : List LV) : layLV l 0 r = r ++ l.drop r.length := by simp [layLV]
theorem layLV_succ (v : LV) (l r : List LV) (i : Nat) : layLV (v :: l) (i + 1) r = v :: layLV l i r := by
  unfold layLV
  rw [show i + 1 + r.length = (i + r.length) + 1 from by omega]
  simp
attribute [simp] nthL_take nthL_drop dat_us_take dat_us_drop dat_bs_take dat_bs_drop dat_app cksL ckL ckC keptL tgtL LObj.stp LObj.st nthL_nil nthL_zero nthL_succ nthL_u nthL_b lk_nil lk_cons fillL LV.cells subV subVs SelR notP shV shVs frV frVs bor bors LV.dat dats LV.scal LV.sim sims dat_us dat_bs scal_us layLV_zero layLV_succ LU inI
attribute [simp] brV_bool' brG_bool brG_nil brL_true brL_false brL_dec brL_not brL_and brL_or
attribute [simp ↓] brV_bool' brG_bool brG_nil brL_true brL_false brL_not nthL_take nthL_drop nthL_zero nthL_succ nthL_u nthL_b
attribute [simp ↓] OpL_move OpL_pick OpL_alloc OpL_box OpL_build OpL_buildSl OpL_load1 OpL_loadN OpL_store OpL_nilChk OpL_bin OpL_un OpL_cvInt OpL_cvStr OpL_cvSame OpL_cvBytes OpL_mkFunc OpL_mkSl bndL_some bndL_none OpL_slStr OpL_slSl OpL_slSl3 OpL_fieldAddr OpL_field OpL_ixAddr OpL_ixStr OpL_extract OpL_lenStr OpL_lenSl OpL_maxi OpL_appZ OpL_appG OpL_copy OpL_callV
attribute [simp] atC_some atD_some cellsL_some pickL_true pickL_false pickL_and pickL_or chkL_ptr chkL_cptr chkL_fn strL_str mkSlL_i bndV_i bndV_u slL_nil slL_dy slL_vw slL_lst sl3L_dy sl3L_lst offL_ptr offL_dptr offL_cptr fldL_true fldL_false ixL_i ixV_dy ixV_vw ixV_lst ixSL_i ixSL_u ixSL_b tupL_tup maxL_it maxL_if maxL_ut maxL_uf lenZ_i copyL_dy copyL_vw goL_fn goL_yield readL_ptr readL_dptr readL_cptr read1_ptr read1_dptr read1_cptr writeL_ptr writeL_dptr rowL_nil rowL_dy rowL_vw rowL_lst rowL_str bytL_nil bytL_dy bytL_lst lenL_nil lenL_dy lenL_vw lenL_lst appL_nil appL_dy appL_vw binL_uu binL_ii binL_bb binL_ss binL_kk binL_shl binL_shr binL_ishl binL_ishr binL_oeq binL_one binL_nn binL_pn binL_sn binL_lne binL_lnn unL_not unL_negu unL_negi unL_xor cvL_uu cvL_ui cvL_ub cvL_iu cvL_ii cvL_ib cvL_bu cvL_bi cvL_bb cvL_bk
attribute [simp ↓] atC_some atD_some cellsL_some pickL_true pickL_false pickL_and pickL_or chkL_ptr chkL_cptr chkL_fn strL_str mkSlL_i bndV_i bndV_u slL_nil slL_dy slL_vw slL_lst sl3L_dy sl3L_lst offL_ptr offL_dptr offL_cptr fldL_true fldL_false ixL_i ixV_dy ixV_vw ixV_lst ixSL_i ixSL_u ixSL_b tupL_tup maxL_it maxL_if maxL_ut maxL_uf lenZ_i copyL_dy copyL_vw goL_fn goL_yield readL_ptr readL_dptr readL_cptr read1_ptr read1_dptr read1_cptr writeL_ptr writeL_dptr rowL_nil rowL_dy rowL_vw rowL_lst rowL_str bytL_nil bytL_dy bytL_lst lenL_nil lenL_dy lenL_vw lenL_lst appL_nil appL_dy appL_vw binL_uu binL_ii binL_bb binL_ss binL_kk binL_shl binL_shr binL_ishl binL_ishr binL_oeq binL_one binL_nn binL_pn binL_sn binL_lne binL_lnn unL_not unL_negu unL_negi unL_xor cvL_uu cvL_ui cvL_ub cvL_iu cvL_ii cvL_ib cvL_bu cvL_bi cvL_bb cvL_bk
attribute [simp] wp_skip wp_ops wp_seq wp_cond wp_block wp_draw wp_exit wp_scope wp_label wp_ret wp_stuck wp_loop wp_range seqQ_n seqQ_e seqQ_r blkQ_n blkQ_e blkQ_r nxQ_n nxQ_e nxQ_r endQ_n endQ_r endQ_e norQ_app takeL_nil takeL_cons takM_some takK_app endK_app resL_nil resL_tmp resL_c1 resL_cN tmpK_app conK_app c1K_app cnK_app oneL_1 oneL_0 oneL_2 OpsL_nil OpsL_cons opsK_app ItL_n ItL_t ItL_f itK_some itK_none atG_app DrL_nil DrL_cons drK_app ev_t ev_c argsL_nil argsL_cons setL_cons uuL_add uuL_sub uuL_mul uuL_quo uuL_rem uuL_shl uuL_shr uuL_andNot uuL_and uuL_or uuL_xor uuL_eql uuL_neq uuL_lss uuL_leq uuL_gtr uuL_geq bbL_add bbL_sub bbL_and bbL_or bbL_eql bbL_neq bbL_lss bbL_leq bbL_gtr bbL_geq iiL_add iiL_sub iiL_mul iiL_quo iiL_rem iiL_shl iiL_shr iiL_eql iiL_neq iiL_lss iiL_leq iiL_gtr iiL_geq kkL_eql kkL_neq kkL_lss kkL_leq kkL_gtr kkL_geq ssL_add ssL_eql ssL_neq nilL_eql nilL_neq
attribute [simp ↓] wp_skip wp_ops wp_seq wp_cond wp_block wp_draw wp_exit wp_scope wp_label wp_ret wp_stuck wp_loop wp_range seqQ_n seqQ_e seqQ_r blkQ_n blkQ_e blkQ_r nxQ_n nxQ_e nxQ_r endQ_n endQ_r endQ_e norQ_app takeL_nil takeL_cons takM_some takK_app endK_app resL_nil resL_tmp resL_c1 resL_cN tmpK_app conK_app c1K_app cnK_app oneL_1 oneL_0 oneL_2 OpsL_nil OpsL_cons opsK_app ItL_n ItL_t ItL_f itK_some itK_none atG_app DrL_nil DrL_cons drK_app ev_t ev_c argsL_nil argsL_cons setL_cons uuL_add uuL_sub uuL_mul uuL_quo uuL_rem uuL_shl uuL_shr uuL_andNot uuL_and uuL_or uuL_xor uuL_eql uuL_neq uuL_lss uuL_leq uuL_gtr uuL_geq bbL_add bbL_sub bbL_and bbL_or bbL_eql bbL_neq bbL_lss bbL_leq bbL_gtr bbL_geq iiL_add iiL_sub iiL_mul iiL_quo iiL_rem iiL_shl iiL_shr iiL_eql iiL_neq iiL_lss iiL_leq iiL_gtr iiL_geq kkL_eql kkL_neq kkL_lss kkL_leq kkL_gtr kkL_geq ssL_add ssL_eql ssL_neq nilL_eql nilL_neq
attribute [simp] cvL_i32 cvL_ik binL_aa
attribute [simp ↓] cvL_i32 cvL_ik binL_aa
attribute [simp] max3L_t max3L_f ixPL_i ixAL_i iiL_and iiL_or
attribute [simp] clearL_vw
attribute [simp ↓] OpL_clear clearL_vw OpL_max3 OpL_ixAddrArr OpL_ixArr OpL_lenArr max3L_t max3L_f ixPL_i ixAL_i iiL_and iiL_or
/-! ### Maps -/
def keyB (o : Option Bool) (A B : Prop) : Prop := match o with
  | some b => brL b A B
  | none => False
def atM (o : Option LObj) (K : List (LV × LV × Nat) → Nat → Nat → Prop) : Prop := match o with
  | some (.map es ck st) => K es ck st
  | _ => False
noncomputable def lookM (d : TypeDesc) (k z : LV) (ok : Bool) (K : LV → Prop) : List (LV × LV × Nat) → Prop := fun es => findL d k (lookK z ok K) es
def conM (x : LV × LV × Nat) (K : List (LV × LV × Nat) → Bool → Prop) : List (LV × LV × Nat) → Bool → Prop := fun r new => K (x :: r) new
def slAL (G : LHeap) (n size : Nat) (x : LV) (lo : (Nat → Prop) → Prop) (hi : Nat → (Nat → Prop) → Prop) (K : LV → LHeap → Prop) : Prop := match x with
  | .ptr p i => atC G[p]? fun l st => i + n * size ≤ l.length ∧ lo fun a => hi n fun b => a ≤ b ∧ b ≤ n ∧ K (.lst ((l.drop (i + a * size)).take ((b - a) * size)) (b - a) size) (G.set p (.dead (st + 1)))
  | _ => False
def intL (x : LV) (A : Prop) : Prop := match x with
  | .i _ => A
  | _ => False
section maps
variable {P : Program} {ρ : LEnv} {G G' : LHeap} {K : LV → LHeap → Prop} {K1 : LV → Prop} {x i m k v z x' k' : LV} {X I M V : Lx} {d : TypeDesc} {ok : Bool} {es es' : List (LV × LV × Nat)} {KE : List (LV × LV × Nat) → Prop} {KB : List (LV × LV × Nat) → Bool → Prop} {KH : LHeap → Prop} {p ck st n size : Nat} {lo hi : Option Lx} {A B : Prop} {lof : (Nat → Prop) → Prop} {hif : Nat → (Nat → Prop) → Prop}
theorem OpL_mkMap0 : OpL P ρ G .mkMap0 K = K (.map G.length) (G ++ [.map [] 0 0]) := (rfl)
theorem OpL_mkMap1 : OpL P ρ G (.mkMap1 X) K = intL (X.ev ρ) (K (.map G.length) (G ++ [.map [] 0 0])) := by
  simp only [OpL, intL]
  cases X.ev ρ <;> rfl
theorem OpL_lookup : OpL P ρ G (.lookup d z ok X I) K = mapL G (X.ev ρ) (lookM d (I.ev ρ) z ok (atG K G)) := (rfl)
theorem OpL_mapUpd : OpL P ρ G (.mapUpd d M I V) K = updL' G d (M.ev ρ) (I.ev ρ) (V.ev ρ) fun G' => K .any G' := (rfl)
theorem OpL_lenMap : OpL P ρ G (.lenMap X) K = mapL G (X.ev ρ) fun es => K (.i es.length) G := (rfl)
theorem OpL_slArr : OpL P ρ G (.slArr n size X lo hi) K = slAL G n size (X.ev ρ) (fun k => bndL ρ 0 lo k) (fun d k => bndL ρ d hi k) K := by
  simp only [OpL, slAL, atC]
  cases X.ev ρ <;> try rfl
  all_goals (cases G[_]? <;> try rfl)
theorem intL_i {n : Int} : intL (.i n) A = A := (rfl)
theorem atM_some {K : List (LV × LV × Nat) → Nat → Nat → Prop} : atM (some (.map es ck st)) K = K es ck st := (rfl)
theorem mapL_nil : mapL G .nilMap KE = KE [] := (rfl)
theorem mapL_map : mapL G (.map p) KE = atM G[p]? fun es _ _ => KE es := by
  simp only [mapL, atM]; cases G[p]? <;> try rfl
theorem lookM_app : lookM d k z ok K1 es = findL d k (lookK z ok K1) es := (rfl)
theorem findL_nil {KO : Option LV → Prop} : findL d k KO [] = KO none := (rfl)
theorem findL_cons {KO : Option LV → Prop} : findL d k KO ((k', v, n) :: es) = keyB (keyL d k k') (KO (some v)) (findL d k KO es) := (rfl)
theorem lookK_st : lookK z true K1 (some v) = K1 (.tup [v, .bool true]) := (rfl)
theorem lookK_sf : lookK z false K1 (some v) = K1 v := (rfl)
theorem lookK_nt : lookK z true K1 none = K1 (.tup [z, .bool false]) := (rfl)
theorem lookK_nf : lookK z false K1 none = K1 z := (rfl)
theorem updL'_map : updL' G d (.map p) k v KH = atM G[p]? fun es ck st => putL d k v ck (setK G p ck st KH) es := by
  simp only [updL', atM]; cases G[p]? <;> try rfl
theorem putL_nil : putL d k v ck KB [] = KB [(k, v, ck)] true := (rfl)
theorem putL_cons {w : LV} : putL d k v ck KB ((k', w, n) :: es) = keyB (keyL d k k') (KB ((k, v, n) :: es) false) (putL d k v ck (conM (k', w, n) KB) es) := (rfl)
theorem conM_app {y : LV × LV × Nat} {b : Bool} : conM y KB es b = KB (y :: es) b := (rfl)
theorem setK_t : setK G p ck st KH es true = KH (G.set p (.map es (ck + 1) (st + 1))) := (rfl)
theorem setK_f : setK G p ck st KH es false = KH (G.set p (.map es ck (st + 1))) := (rfl)
theorem keyB_some {b : Bool} : keyB (some b) A B = brL b A B := (rfl)
theorem keyL_i {kk : IntKind} {a b : Int} : keyL (.int kk) (.i a) (.i b) = some (decide (a = b)) := (rfl)
theorem keyL_u {kk : IntKind} {a b : UInt64} : keyL (.int kk) (.u a) (.u b) = some (decide (a = b)) := (rfl)
theorem keyL_s {a b : List UInt8} : keyL .string (.str a) (.str b) = some (decide (a = b)) := (rfl)
theorem slAL_ptr {j : Nat} : slAL G n size (.ptr p j) lof hif K = atC G[p]? fun l st => j + n * size ≤ l.length ∧ lof fun a => hif n fun b => a ≤ b ∧ b ≤ n ∧ K (.lst ((l.drop (j + a * size)).take ((b - a) * size)) (b - a) size) (G.set p (.dead (st + 1))) := (rfl)
@[congr] theorem intL_congr (h1 : x = x') : intL x A = intL x' A := by rw [h1]
@[congr] theorem atM_congr {o o' : Option LObj} {K : List (LV × LV × Nat) → Nat → Nat → Prop} (h : o = o') : atM o K = atM o' K := by rw [h]
@[congr] theorem mapL_congr (h1 : G = G') (h2 : x = x') : mapL G x KE = mapL G' x' KE := by rw [h1, h2]
@[congr] theorem lookM_congr (h1 : k = k') (h2 : es = es') : lookM d k z ok K1 es = lookM d k' z ok K1 es' := by rw [h1, h2]
@[congr] theorem findL_congr {KO : Option LV → Prop} (h1 : k = k') (h2 : es = es') : findL d k KO es = findL d k' KO es' := by rw [h1, h2]
@[congr] theorem updL'_congr {v' m' : LV} (h1 : G = G') (h2 : m = m') (h3 : k = k') (h4 : v = v') : updL' G d m k v KH = updL' G' d m' k' v' KH := by rw [h1, h2, h3, h4]
@[congr] theorem putL_congr {v' : LV} (h3 : k = k') (h4 : v = v') (h5 : es = es') : putL d k v ck KB es = putL d k' v' ck KB es' := by rw [h3, h4, h5]
@[congr] theorem keyB_congr {o o' : Option Bool} (h : o = o') : keyB o A B = keyB o' A B := by rw [h]
@[congr] theorem slAL_congr (h1 : G = G') (h2 : x = x') : slAL G n size x lof hif K = slAL G' n size x' lof hif K := by rw [h1, h2]
end maps
attribute [simp] intL_i atM_some mapL_nil mapL_map lookM_app findL_nil findL_cons lookK_st lookK_sf lookK_nt lookK_nf updL'_map putL_nil putL_cons conM_app setK_t setK_f keyB_some keyL_i keyL_u keyL_s slAL_ptr
attribute [simp ↓] OpL_mkMap0 OpL_mkMap1 OpL_lookup OpL_mapUpd OpL_lenMap OpL_slArr intL_i atM_some mapL_nil mapL_map lookM_app findL_nil findL_cons lookK_st lookK_sf lookK_nt lookK_nf updL'_map putL_nil putL_cons conM_app setK_t setK_f keyB_some keyL_i keyL_u keyL_s slAL_ptr
end Go.Sv
