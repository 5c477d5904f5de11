/- What an operation comes to in the logic, the evaluator's operation comes to: every operation. -/
import Derived.Test.YtlfffpmdofacjaaLgOpm
namespace Go.Sv

section res
variable {P : Program} {c : Cx} {G : LHeap} {K : LV → LHeap → Prop}

theorem cutSl_any (l h m o v i esz : Nat) (hlh : l ≤ h) (hhm : h ≤ m) : (h - l = 0 ∧ cutSl l h m o v i esz = .emp) ∨ ∃ room', cutSl l h m o v i esz = .sl o v (i + l * esz) (h - l) esz room' ∧ ∀ r, room' = some r → h - l ≤ r := by
  unfold cutSl
  cases h1 : Nat.beq l m with
  | true =>
    have e1 := Nat.eq_of_beq_eq_true h1
    cases h2 : Nat.beq l 0 with
    | true =>
      have e2 := Nat.eq_of_beq_eq_true h2
      have : h - l = 0 := by omega
      refine .inr ⟨some 0, ?_, fun r _ => by omega⟩
      rw [this, e2]; simp
    | false => exact .inl ⟨by omega, rfl⟩
  | false => exact .inr ⟨_, rfl, fun r e => by cases e; show h - l ≤ m - l; omega⟩
/-- What slicing gives, whatever room there is. -/
theorem sliceSl_any {lo hi : Option Nat} {o v i len esz : Nat} {room : Option Nat} (hlh : lo.getD 0 ≤ hi.getD len) (hh : hi.getD len ≤ len) (hr : ∀ r, room = some r → len ≤ r) :
    ∃ a, sliceSl esz lo hi none o v i len esz room = some a ∧ slish a = true ∧ ((hi.getD len - lo.getD 0 = 0 ∧ a = .emp) ∨ ∃ room', a = .sl o v (i + lo.getD 0 * esz) (hi.getD len - lo.getD 0) esz room' ∧ ∀ r, room' = some r → hi.getD len - lo.getD 0 ≤ r) := by
  generalize hl : lo.getD 0 = l at hlh
  generalize hx : hi.getD len = h at hlh hh
  have key : ∀ a, ((h - l = 0 ∧ a = .emp) ∨ ∃ room', a = AV.sl o v (i + l * esz) (h - l) esz room' ∧ ∀ r, room' = some r → h - l ≤ r) → slish a = true := by
    rintro a (⟨_, rfl⟩ | ⟨_, rfl, _⟩) <;> rfl
  unfold sliceSl
  rw [Nat.beq_refl, hl, hx]
  dsimp only
  unfold sliceSl'
  have b1 : Nat.ble l h = true := Nat.ble_eq_true_of_le hlh
  cases room with
  | some r =>
    have b2 : Nat.ble h ((some r).getD len) = true := Nat.ble_eq_true_of_le (by have := hr r rfl; show h ≤ r; omega)
    rw [b1, b2]
    dsimp only
    have := cutSl_any l h r o v i esz hlh (by have := hr r rfl; omega)
    exact ⟨_, rfl, key _ this, this⟩
  | none =>
    have b2 : Nat.ble h ((none : Option Nat).getD len) = true := Nat.ble_eq_true_of_le hh
    rw [b1, b2]
    dsimp only
    cases h2 : Nat.beq l 0 with
    | true =>
      have e2 := Nat.eq_of_beq_eq_true h2
      have : (h - l = 0 ∧ (AV.sl o v i h esz none) = .emp) ∨ ∃ room', AV.sl o v i h esz none = AV.sl o v (i + l * esz) (h - l) esz room' ∧ ∀ r, room' = some r → h - l ≤ r := .inr ⟨none, by rw [e2]; simp, fun r e => by cases e⟩
      exact ⟨_, rfl, key _ this, this⟩
    | false =>
      cases h3 : Nat.beq l h with
      | true =>
        have e3 := Nat.eq_of_beq_eq_true h3
        exact ⟨_, rfl, rfl, .inl ⟨by omega, rfl⟩⟩
      | false => exact ⟨_, rfl, rfl, .inr ⟨none, rfl, fun r e => by cases e⟩⟩

theorem sliceSl_any3 {lo hi : Option Nat} {o v i len esz m : Nat} {room : Option Nat} (hlh : lo.getD 0 ≤ hi.getD len) (hh : hi.getD len ≤ m) (hm : m ≤ len) (hr : ∀ r, room = some r → len ≤ r) :
    ∃ a, sliceSl esz lo hi (some m) o v i len esz room = some a ∧ slish a = true ∧ ((hi.getD len - lo.getD 0 = 0 ∧ a = .emp) ∨ ∃ room', a = .sl o v (i + lo.getD 0 * esz) (hi.getD len - lo.getD 0) esz room' ∧ ∀ r, room' = some r → hi.getD len - lo.getD 0 ≤ r) := by
  generalize hl : lo.getD 0 = l at hlh
  generalize hx : hi.getD len = h at hlh hh
  have key : ∀ a, ((h - l = 0 ∧ a = .emp) ∨ ∃ room', a = AV.sl o v (i + l * esz) (h - l) esz room' ∧ ∀ r, room' = some r → h - l ≤ r) → slish a = true := by
    rintro a (⟨_, rfl⟩ | ⟨_, rfl, _⟩) <;> rfl
  unfold sliceSl
  rw [Nat.beq_refl, hl, hx]
  dsimp only
  unfold sliceSl'
  have hmost : m ≤ room.getD len := by
    cases room with
    | none => exact hm
    | some r => have := hr r rfl; show m ≤ r; omega
  rw [show Nat.ble l h = true from Nat.ble_eq_true_of_le hlh, show Nat.ble h (room.getD len) = true from Nat.ble_eq_true_of_le (Nat.le_trans hh hmost)]
  dsimp only
  rw [show Nat.ble h m = true from Nat.ble_eq_true_of_le hh, show Nat.ble m (room.getD len) = true from Nat.ble_eq_true_of_le hmost]
  dsimp only
  have := cutSl_any l h m o v i esz hlh hh
  exact ⟨_, rfl, key _ this, this⟩

theorem AR.lst' {l : List LV} {len esz : Nat} {a : AV} {o v i n : Nat} {l' : List AV} {j : Nat} (hf : c.Fz o) (hr : readAt c.H o v i n = some l') (hl : ARs c l l') (hle : j * esz + len * esz ≤ n)
    (ha : (len = 0 ∧ a = .emp) ∨ ∃ room, a = .sl o v (i + j * esz) len esz room ∧ ∀ r, room = some r → len ≤ r) : AR c (.lst ((l.drop (j * esz)).take (len * esz)) len esz) a := by
  have hn := readAt_length hr
  have hll := hl.length
  rcases ha with ⟨rfl, rfl⟩ | ⟨room, rfl, hrm⟩
  · simp only [Nat.zero_mul, List.take_zero]; exact .lstEmp
  · exact .lst hf hrm (by simp; omega) (readAt_sub hr hle) ((hl.drop _).take _)

theorem maxi_i (mx : Bool) (a b : Int) : foldMax mx (.int .i64 a) [.int .i64 b] = some (.int .i64 (match mx with | true => max a b | false => min a b)) := by
  have hk : kindEq .i64 .i64 = true := rfl
  simp only [foldMax, maxA, hk]
  cases mx with
  | true =>
    simp only [ltI_dec]
    by_cases h : a < b
    · rw [decide_eq_true h]; simp only; congr 2; omega
    · rw [decide_eq_false h]; simp only; congr 2; omega
  | false =>
    simp only [ltI_dec]
    by_cases h : b < a
    · rw [decide_eq_true h]; simp only; congr 2; omega
    · rw [decide_eq_false h]; simp only; congr 2; omega
theorem maxi_u (mx : Bool) (a b : UInt64) : foldMax mx (.int .u64 (Int.ofNat a.toNat)) [.int .u64 (Int.ofNat b.toNat)] = some (.int .u64 (Int.ofNat (match mx with | true => if a < b then b else a | false => if b < a then b else a : UInt64).toNat)) := by
  have hk : kindEq .u64 .u64 = true := rfl
  simp only [foldMax, maxA, hk]
  cases mx with
  | true =>
    simp only [ltI_dec, dec_u_lt]
    by_cases h : a < b
    · rw [decide_eq_true h, if_pos h]
    · rw [decide_eq_false h, if_neg h]
  | false =>
    simp only [ltI_dec, dec_u_lt]
    by_cases h : b < a
    · rw [decide_eq_true h, if_pos h]
    · rw [decide_eq_false h, if_neg h]

theorem bytesA_map : ∀ l : List UInt8, convF.bytesA (l.map fun b => AV.int .u8 (Int.ofNat b.toNat)) = some (packL l)
  | [] => rfl
  | b :: l => by
    have hb := b.toNat_lt
    have h : Nat.blt b.toNat 256 = true := by unfold Nat.blt; exact Nat.ble_eq_true_of_le hb
    simp only [List.map_cons, convF.bytesA, h, if_true, bytesA_map l, packL]
theorem ARs_b : ∀ {bs : List UInt8} {l' : List AV}, ARs c (bs.map LV.b) l' → l' = bs.map fun b => AV.int .u8 (Int.ofNat b.toNat)
  | [], l', h => by cases h; rfl
  | b :: bs, l', h => by
    cases h with
    | cons h hs => cases h; rw [ARs_b hs]; rfl

theorem bytL_ok (hs : HSim c G) {x : LV} {a : AV} {K : List LV → Prop} (hx : AR c x a) (h : bytL G x K) : ∃ l l', ARs c l l' ∧ K l ∧ ((a = .nilSl ∧ l' = []) ∨ ∃ o v i room, a = .sl o v i l'.length 1 room ∧ readAt c.H o v i l'.length = some l') := by
  unfold bytL at h
  split at h
  · cases hx; exact ⟨[], [], .nil, h, .inl ⟨rfl, rfl⟩⟩
  · rename_i p k
    split at h
    · rename_i l len esz ver st hg
      obtain ⟨hk0, rfl, h⟩ := h
      cases hx with
      | @dy _ _ k' hh _ e hk ha _ =>
        obtain ⟨r0, r1, r2⟩ := hs.obj p _ _ _ hg e
        have hha := ha (by omega)
        rcases r2 with ⟨r2, r3⟩ | ⟨o, v, room, t, clen, l', r2, r3, r4, r5, r6, _⟩
        · subst r3
          have : l = [] := List.eq_nil_of_length_eq_zero (by simpa using r1)
          subst this
          exact ⟨[], [], .nil, h, .inl ⟨hha.trans r2, rfl⟩⟩
        · have hl' : l'.length = len * 1 := by rw [← r6.length]; exact r1
          have hr := readAt_of (i := 0) (n := len * 1) r3 r5 r4 (by omega)
          rw [Nat.mul_one] at hl' hr
          refine ⟨l, l', r6, h, .inr ⟨o, v, 0, room, by rw [hha, r2, hl'], ?_⟩⟩
          rw [hl', hr, List.drop_zero, List.take_of_length_le (by omega)]
    · exact h.elim
  · rename_i l len esz
    obtain ⟨rfl, hne, h⟩ := h
    cases hx with
    | lst hf hrm hlen hr hl =>
      have hl' := readAt_length hr
      rw [Nat.mul_one] at hl' hr
      refine ⟨l, _, hl, h, .inr ⟨_, _, _, _, by rw [hl'], by rw [hl']; exact hr⟩⟩
    | lstNil => exact absurd rfl hne
    | lstEmp => exact absurd rfl hne
  · exact h.elim

theorem OpL_ok (hs : HSim c G) {ρ : LEnv} {E : Tr AV} (hE : EnvL c ρ E) {o : LOp} (hok : o.ok = true) (h : OpL P ρ G o K) : OpRes P c G K (evR P (ρA E) c.H o.r) := by
  cases o with
  | move x => exact .same hs (Lx_ok hE hok) h
  | pick cc a b =>
    simp only [LOp.ok, Bool.and_eq_true] at hok
    have hc := Lx_ok hE hok.1.1
    have ha := Lx_ok hE hok.1.2
    have hb := Lx_ok hE hok.2
    simp only [OpL] at h
    simp only [LOp.r, evR]
    generalize cc.ev ρ = cv at h hc
    generalize cc.r.ev (ρA E) = ca at hc ⊢
    cases cv <;> first | exact h.elim | skip
    rename_i t
    cases hc
    dsimp only at h
    split at h
    · rename_i x y hx hy
      rw [hx] at ha
      rw [hy] at hb
      cases t with
      | true => exact .same hs ha h
      | false => exact .same hs hb h
    · cases t with
      | true => exact .same hs ha (h.1 rfl)
      | false => exact .same hs hb (h.2 rfl)
  | alloc l => exact newVarL_ok hs (scals_AR c hok) h
  | box x =>
    have hx := Lx_ok hE hok
    simp only [OpL] at h
    simp only [LOp.r, evR]
    split at h
    · rename_i l hl
      obtain ⟨l', q1, q2⟩ := hx.cells hl
      rw [q1]
      exact newVarL_ok hs q2 h
    · exact h.elim
  | build cs ps =>
    simp only [LOp.ok, Bool.and_eq_true] at hok
    simp only [OpL] at h
    simp only [LOp.r, evR]
    split at h
    · rename_i l hl
      obtain ⟨l', q1, q2⟩ := fillL_ok hE hok.2 (scals_AR c hok.1) hl
      rw [q1]
      exact .same hs (.agg q2) h
    · exact h.elim
  | buildSl size len cs ps =>
    simp only [LOp.ok, Bool.and_eq_true] at hok
    simp only [OpL] at h
    simp only [LOp.r, evR]
    split at h
    · rename_i l hl
      obtain ⟨l', q1, q2⟩ := fillL_ok hE hok.2 (scals_AR c hok.1) hl
      rw [q1]
      exact newSlL_ok hs q2 h.1 (fun r e => by cases e; rfl) h.2
    · exact h.elim
  | load1 x =>
    have hx := Lx_ok hE hok
    simp only [OpL] at h
    simp only [LOp.r, evR]
    obtain ⟨o, v, i, w, b, q1, q2, q3, q4⟩ := read1_ok hs hx h
    rw [q1]
    dsimp only
    rw [q2]
    exact .same hs q3 q4
  | loadN n x =>
    have hx := Lx_ok hE hok
    simp only [OpL] at h
    simp only [LOp.r, evR]
    obtain ⟨o, v, i, l', l, q1, q2, q3, q4⟩ := readL_ok hs hx h
    rw [q1]
    dsimp only
    rw [q2]
    exact .same hs (.agg q3) q4
  | store n x y =>
    simp only [LOp.ok, Bool.and_eq_true] at hok
    have hx := Lx_ok hE hok.1
    have hy := Lx_ok hE hok.2
    simp only [OpL] at h
    simp only [LOp.r, evR]
    split at h
    · rename_i l hl
      obtain ⟨l', p1, p2⟩ := hy.cells hl
      obtain ⟨o, v, i, H', c', G', q1, q2, q3, q4, q5, q6⟩ := writeL_ok hs hx p2 h.2
      rw [q1]
      dsimp only
      rw [p1]
      dsimp only
      have hb : Nat.beq l'.length n = true := by rw [← p2.length, h.1]; exact Nat.beq_refl _
      rw [hb]
      dsimp only
      rw [q2]
      exact ⟨c', .tup [], G', q3, q4, q5, .tup .nil, q6⟩
    · exact h.elim
  | nilChk x =>
    have hx := Lx_ok hE hok
    simp only [OpL] at h
    simp only [LOp.r, evR]
    generalize x.ev ρ = v at h hx
    generalize x.r.ev (ρA E) = a at hx ⊢
    split at h
    · have h0 := hx
      cases hx
      exact .same hs h0 h
    · have h0 := hx
      cases hx
      exact .same hs h0 h
    · have h0 := hx
      cases hx
      exact .same hs h0 h
    · exact h.elim
  | bin op g t x y =>
    simp only [LOp.ok, Bool.and_eq_true] at hok
    exact .ret hs (binL_ok (Lx_ok hE hok.1) (Lx_ok hE hok.2) h)
  | un op x => exact .ret hs (unL_ok (Lx_ok hE hok) h)
  | cvInt k x =>
    obtain ⟨k', n, q1, v, q2, q3⟩ := cvL_ok (Lx_ok hE hok) (show cvL k (x.ev ρ) (fun v => K v G) from h)
    simp only [LOp.r, evR]
    rw [q1]
    exact .same hs q2 q3
  | cvStr x =>
    have hx := Lx_ok hE hok
    simp only [OpL] at h
    simp only [LOp.r, evR]
    obtain ⟨l, l', q1, ⟨bs, rfl, q2⟩, q3⟩ := bytL_ok hs hx h
    have hl' := ARs_b q1
    rcases q3 with ⟨q3, q4⟩ | ⟨o, v, i, room, q3, q4⟩
    · rw [q3]
      rw [q4] at hl'
      have : bs = [] := by cases bs with
        | nil => rfl
        | cons _ _ => cases hl'
      subst this
      exact .same hs (.str []) q2
    · rw [q3]
      show OpRes P c G K (match readAt c.H o v i l'.length with
        | some r => match convF.bytesA r with
          | some n => OR.val (.str l'.length n) c.H
          | none => .no
        | none => .no)
      rw [q4]
      dsimp only
      rw [hl', bytesA_map]
      dsimp only
      exact .same hs (.str' (by simp) rfl) q2
  | cvSame x =>
    have hx := Lx_ok hE hok
    simp only [OpL] at h
    simp only [LOp.r, evR]
    generalize x.ev ρ = v at h hx
    generalize x.r.ev (ρA E) = a at hx ⊢
    split at h
    · cases hx; exact .same hs (.str _) h
    · exact h.elim
  | cvBytes x =>
    have hx := Lx_ok hE hok
    simp only [OpL] at h
    simp only [LOp.r, evR]
    generalize x.ev ρ = v at h hx
    generalize x.r.ev (ρA E) = a at hx ⊢
    split at h
    · rename_i l
      cases hx
      exact newSlL_ok hs (unpack_u8 l c) (by simp) (fun r e => by cases e) h
    · exact h.elim
  | mkFunc f a b =>
    simp only [LOp.ok, Bool.and_eq_true] at hok
    exact .same hs (.fn (Lxs_ok hE hok.1) (Lxs_ok hE hok.2)) h
  | mkSl size z l cc =>
    simp only [LOp.ok, Bool.and_eq_true] at hok
    have hl := Lx_ok hE hok.1.2
    have hc := Lx_ok hE hok.2
    simp only [OpL] at h
    simp only [LOp.r, evR]
    generalize l.ev ρ = lv at h hl
    generalize l.r.ev (ρA E) = la at hl ⊢
    generalize cc.ev ρ = cv at h hc
    generalize cc.r.ev (ρA E) = ca at hc ⊢
    split at h
    · rename_i n m
      obtain ⟨rfl, h1, h2, h3, h4⟩ := h
      cases hl; cases hc
      obtain ⟨k, rfl⟩ := Int.eq_ofNat_of_zero_le h1
      have b1 : Nat.ble k k = true := Nat.ble_eq_true_of_le (Nat.le_refl _)
      have b2 : Nat.ble k 1048576 = true := Nat.ble_eq_true_of_le (by omega)
      show OpRes P c G K (match Nat.ble k k with
        | true => match Nat.ble k 1048576 with
          | true => match newObj c.H (repeatL (toAs z) k) with
            | some (o, H') => OR.val (.sl o 0 0 k size (some k)) H'
            | none => .no
          | false => .no
        | false => .no)
      rw [b1, b2]
      exact newSlL_ok hs ((scals_AR c hok.1.1).rep k) (by rw [repL_length, h3]) (fun r e => by cases e; rfl) h4
    · exact h.elim
  | slStr x lo hi =>
    simp only [LOp.ok, Bool.and_eq_true] at hok
    have hx := Lx_ok hE hok.1.1
    simp only [OpL] at h
    simp only [LOp.r, evR]
    generalize x.ev ρ = v at h hx
    generalize x.r.ev (ρA E) = a at hx ⊢
    split at h
    · rename_i l
      cases hx
      obtain ⟨rlo, nlo, q1, q2, q3⟩ := bndL_ok hE hok.1.2 h
      obtain ⟨rhi, nhi, q4, q5, h1, h2, h3⟩ := bndL_ok hE hok.2 q3
      rw [q1, q4]
      dsimp only
      rw [q2, q5]
      have b1 : Nat.ble nlo nhi = true := Nat.ble_eq_true_of_le h1
      have b2 : Nat.ble nhi l.length = true := Nat.ble_eq_true_of_le h2
      rw [b1, b2]
      dsimp only
      refine .same hs (.str' (by simp; omega) ?_) h3
      rw [packL_take, packL_drop]
      rfl
    · exact h.elim
  | slSl size x lo hi =>
    simp only [LOp.ok, Bool.and_eq_true] at hok
    have hx := Lx_ok hE hok.1.1
    simp only [OpL] at h
    simp only [LOp.r, evR]
    have hmx : optR (ρA E) none = some none := rfl
    rw [hmx]
    split at h
    · rename_i hv
      rw [hv] at hx
      generalize x.r.ev (ρA E) = a at hx ⊢
      cases hx
      obtain ⟨rlo, nlo, q1, q2, q3⟩ := bndL_ok hE hok.1.2 h
      obtain ⟨rhi, nhi, q4, q5, h1, h2, h3⟩ := bndL_ok hE hok.2 q3
      rw [q1, q4]
      dsimp only
      rw [q2, q5, h1, h2]
      exact .same hs .nilSl h3
    · rename_i p k hv
      rw [hv] at hx
      generalize x.r.ev (ρA E) = a at hx ⊢
      split at h
      · rename_i l len esz ver st hg
        obtain ⟨hk0, rfl, h⟩ := h
        obtain ⟨rlo, nlo, q1, q2, q3⟩ := bndL_ok hE hok.1.2 h
        obtain ⟨rhi, nhi, q4, q5, h1, h2, h3⟩ := bndL_ok hE hok.2 q3
        rw [q1, q4]
        cases hx with
        | @dy _ _ k' hh _ e hk ha _ =>
          obtain ⟨r0, r1, r2⟩ := hs.obj p _ _ _ hg e
          have hha := ha (by omega)
          rcases r2 with ⟨r2, r3⟩ | ⟨o, v, room, t, clen, l', r2, r3, r4, r5, r6, r7, r8⟩
          · subst r3
            have e1 : nlo = 0 := by omega
            have e2 : nhi = 0 := by omega
            subst e1 e2
            rw [hha, r2]
            dsimp only
            rw [q2, show rhi.getD 0 = 0 from q5]
            exact .same hs (.vw e hk (fun _ => .inl ⟨rfl, .inl rfl⟩) rfl) h3
          · obtain ⟨a2, p1, p2, p3⟩ := sliceSl_any (lo := rlo) (hi := rhi) (o := o) (v := v) (i := 0) (esz := esz) (len := len) (room := room) (by rw [q2, q5]; exact h1) (by rw [q5]; exact h2) (fun r e' => (r7 r e').2)
            rw [hha, r2]
            dsimp only
            rw [p1]
            rw [q2, q5, Nat.zero_add] at p3
            refine .same hs (.vw e hk (fun _ => ?_) p2) h3
            rcases p3 with ⟨p3, p4⟩ | ⟨room', p4⟩
            · exact .inl ⟨p3, .inr p4⟩
            · exact .inr ⟨o, v, len, esz, room, room', r2, p4⟩
      · exact h.elim
    · rename_i p k l0 len hv
      rw [hv] at hx
      generalize x.r.ev (ρA E) = a at hx ⊢
      split at h
      · rename_i l len0 esz ver st hg
        obtain ⟨hk0, rfl, h⟩ := h
        obtain ⟨rlo, nlo, q1, q2, q3⟩ := bndL_ok hE hok.1.2 h
        obtain ⟨rhi, nhi, q4, q5, h1, h2, h3⟩ := bndL_ok hE hok.2 q3
        rw [q1, q4]
        cases hx with
        | @vw _ _ _ _ k' hh _ e hk ha _ =>
          have hkv := (hs.obj p _ _ _ hg e).1
          rcases ha (by omega) with ⟨r3, r4⟩ | ⟨o, v, len', esz', room, room', r3, r4, r9⟩
          · subst r3
            have e1 : nlo = 0 := by omega
            have e2 : nhi = 0 := by omega
            subst e1 e2
            rcases r4 with rfl | rfl
            · dsimp only
              rw [q2, show rhi.getD 0 = 0 from q5]
              exact .same hs (.vw e hk (fun _ => .inl ⟨rfl, .inl rfl⟩) rfl) h3
            · dsimp only
              rw [q2, show rhi.getD 0 = 0 from q5]
              exact .same hs (.vw e hk (fun _ => .inl ⟨rfl, .inr rfl⟩) rfl) h3
          · subst r3
            obtain ⟨_, w1, w2, w3, _⟩ := dyn_at hs hg e
            subst w2 w3
            obtain ⟨a2, p1, p2, p3⟩ := sliceSl_any (lo := rlo) (hi := rhi) (o := o) (v := v) (i := l0 * esz') (esz := esz') (len := len) (room := room') (by rw [q2, q5]; exact h1) (by rw [q5]; exact h2) r9
            rw [r4]
            dsimp only
            rw [p1]
            rw [q2, q5] at p3
            refine .same hs (.vw e hk (fun _ => ?_) p2) h3
            rcases p3 with ⟨p3, p4⟩ | ⟨room2, p4, p5⟩
            · exact .inl ⟨p3, .inr p4⟩
            · exact .inr ⟨o, v, _, esz', room, room2, rfl, by rw [p4, Nat.add_mul], p5⟩
      · exact h.elim
    · rename_i l len esz hv
      rw [hv] at hx
      generalize x.r.ev (ρA E) = a at hx ⊢
      obtain ⟨rfl, h⟩ := h
      obtain ⟨rlo, nlo, q1, q2, q3⟩ := bndL_ok hE hok.1.2 h
      obtain ⟨rhi, nhi, q4, q5, h1, h2, h3⟩ := bndL_ok hE hok.2 q3
      rw [q1, q4]
      have hnil : len = 0 → l = [] → K (.lst [] 0 esz) G := fun e1 e2 => by
        have e3 : nlo = 0 := by omega
        have e4 : nhi = 0 := by omega
        subst e2 e3 e4
        simpa using h3
      cases hx with
      | lst hf hrm hlen hr hl =>
        obtain ⟨a2, p1, p2, p3⟩ := sliceSl_any (lo := rlo) (hi := rhi) (by rw [q2, q5]; exact h1) (by rw [q5]; exact h2) hrm
        dsimp only
        rw [p1]
        rw [q2, q5] at p3
        refine .same hs (.lst' hf hr hl ?_ p3) h3
        rw [← Nat.add_mul]
        exact Nat.mul_le_mul_right _ (by omega)
      | lstNil =>
        have e3 : nlo = 0 := by omega
        have e4 : nhi = 0 := by omega
        dsimp only
        rw [q2, show rhi.getD 0 = nhi from q5, e3, e4]
        exact .same hs .lstNil (hnil rfl rfl)
      | lstEmp =>
        have e3 : nlo = 0 := by omega
        have e4 : nhi = 0 := by omega
        dsimp only
        rw [q2, show rhi.getD 0 = nhi from q5, e3, e4]
        exact .same hs .lstEmp (hnil rfl rfl)
    · exact h.elim
  | slSl3 size x lo hi mx =>
    simp only [LOp.ok, Bool.and_eq_true] at hok
    have hx := Lx_ok hE hok.1.1.1
    have hmo : optOk (some mx) = true := hok.2
    simp only [OpL] at h
    simp only [LOp.r, evR]
    split at h
    · rename_i p k hv
      rw [hv] at hx
      generalize x.r.ev (ρA E) = a at hx ⊢
      split at h
      · rename_i l len esz ver st hg
        obtain ⟨hk0, rfl, h⟩ := h
        obtain ⟨rlo, nlo, q1, q2, q3⟩ := bndL_ok hE hok.1.1.2 h
        obtain ⟨rhi, nhi, q4, q5, q6⟩ := bndL_ok hE hok.1.2 q3
        obtain ⟨rmx, nmx, q7, q8, h0, h1, h2, h3, h4⟩ := bndL_ok hE hmo q6
        simp only [Option.map_some] at q7
        rw [q1, q4, q7]
        cases hx with
        | @dy _ _ k' hh _ e hk ha _ =>
          obtain ⟨r0, r1, r2⟩ := hs.obj p _ _ _ hg e
          have hha := ha (by omega)
          have hmx : rmx = some nmx := by
            cases rmx with
            | none => unfold optR at q7; dsimp only at q7; split at q7 <;> cases q7
            | some m => simp at q8; rw [q8]
          rcases r2 with ⟨r2, r3⟩ | ⟨o, v, room, t, clen, l', r2, r3, r4, r5, r6, r7, r8⟩
          · omega
          · obtain ⟨a2, p1, p2, p3⟩ := sliceSl_any3 (lo := rlo) (hi := rhi) (o := o) (v := v) (i := 0) (esz := esz) (len := len) (room := room) (m := nmx) (by rw [q2, q5]; exact h1) (by rw [q5]; exact h2) h3 (fun r e' => (r7 r e').2)
            rw [hha, r2, hmx]
            dsimp only
            rw [p1]
            rw [q2, q5, Nat.zero_add] at p3
            refine .same hs (.vw e hk (fun _ => ?_) p2) h4
            rcases p3 with ⟨p3, p4⟩ | ⟨room', p4⟩
            · exact .inl ⟨p3, .inr p4⟩
            · exact .inr ⟨o, v, len, esz, room, room', r2, p4⟩
      · exact h.elim
    · rename_i l len esz hv
      rw [hv] at hx
      generalize x.r.ev (ρA E) = a at hx ⊢
      obtain ⟨rfl, h⟩ := h
      obtain ⟨rlo, nlo, q1, q2, q3⟩ := bndL_ok hE hok.1.1.2 h
      obtain ⟨rhi, nhi, q4, q5, q6⟩ := bndL_ok hE hok.1.2 q3
      obtain ⟨rmx, nmx, q7, q8, h0, h1, h2, h3, h4⟩ := bndL_ok hE hmo q6
      simp only [Option.map_some] at q7
      rw [q1, q4, q7]
      have hmx : rmx = some nmx := by
        cases rmx with
        | none => unfold optR at q7; dsimp only at q7; split at q7 <;> cases q7
        | some m => simp at q8; rw [q8]
      cases hx with
      | lst hf hrm hlen hr hl =>
        obtain ⟨a2, p1, p2, p3⟩ := sliceSl_any3 (lo := rlo) (hi := rhi) (m := nmx) (by rw [q2, q5]; exact h1) (by rw [q5]; exact h2) h3 hrm
        rw [hmx]
        dsimp only
        rw [p1]
        rw [q2, q5] at p3
        refine .same hs (.lst' hf hr hl ?_ p3) h4
        rw [← Nat.add_mul]
        exact Nat.mul_le_mul_right _ (by omega)
      | lstNil => omega
      | lstEmp => omega
    · exact h.elim
  | fieldAddr off x =>
    have hx := Lx_ok hE hok
    simp only [OpL] at h
    simp only [LOp.r, evR]
    generalize x.ev ρ = v at h hx
    generalize x.r.ev (ρA E) = a at hx ⊢
    split at h
    · cases hx with
      | ptr e => exact .same hs (.ptr e) h
    · cases hx with
      | dptr e hk ha => exact .same hs (.dptr e hk (fun q => ⟨by rw [(ha q).1]; rfl, (ha q).2⟩)) h
    · cases hx with
      | cptr hf hr hl =>
        dsimp only
        rw [show ∀ a b c : Nat, Nat.add (a + b) c = a + (b + c) from fun a b c => Nat.add_assoc a b c]
        exact .same hs (.cptr hf hr hl) h
    · exact h.elim
  | field g n off x =>
    have hx := Lx_ok hE hok
    simp only [OpL] at h
    simp only [LOp.r, evR]
    generalize x.ev ρ = v at h hx
    generalize x.r.ev (ρA E) = a at hx ⊢
    split at h
    · rename_i l
      cases hx with
      | agg hl =>
        dsimp only
        cases g with
        | true =>
          obtain ⟨h1, h2⟩ := h
          have hll := hl.length
          rename_i l'
          have b1 : Nat.ble (Nat.add off n) l'.length = true := Nat.ble_eq_true_of_le (show off + n ≤ l'.length by rw [← hll]; exact h1)
          refine .ret hs ?_
          simp only [partA, sub1, b1]
          exact .mk (.agg ((hl.drop off).take n)) h2
        | false =>
          obtain ⟨v, hv, h⟩ := h
          obtain ⟨a, q1, q2⟩ := hl.get hv
          refine .ret hs ?_
          simp only [partA]
          rw [q1]
          exact .mk q2 h
    · exact h.elim
  | ixAddr size x i =>
    simp only [LOp.ok, Bool.and_eq_true] at hok
    have hx := Lx_ok hE hok.1
    have hi := Lx_ok hE hok.2
    simp only [OpL] at h
    simp only [LOp.r, evR]
    generalize i.ev ρ = iv at h hi
    generalize i.r.ev (ρA E) = ia at hi ⊢
    generalize x.ev ρ = v at h hx
    generalize x.r.ev (ρA E) = a at hx ⊢
    split at h
    · rename_i n
      cases hi
      have key : ∀ {o v j len esz : Nat} {room : Option Nat} {m : Nat} {y : LV}, m < len → esz = size → AR c y (.ptr o v (j + m * esz)) → K y G → OpRes P c G K (match AV.sl o v j len esz room, AV.int .i64 (Int.ofNat m) with
          | .sl o v i len esz _, .int _ (.ofNat n) => match Nat.blt n len with
            | true => match Nat.beq esz size with
              | true => .val (.ptr o v (Nat.add i (Nat.mul n esz))) c.H
              | false => .no
            | false => .no
          | _, _ => .no) := by
        intro o v j len esz room m y h1 h2 h3 h4
        subst h2
        have b1 : Nat.blt m len = true := by unfold Nat.blt; exact Nat.ble_eq_true_of_le h1
        dsimp only
        rw [b1, Nat.beq_refl]
        exact .same hs h3 h4
      split at h
      · rename_i p k
        split at h
        · rename_i l len esz ver st hg
          obtain ⟨hk0, rfl, h1, h2, h3⟩ := h
          obtain ⟨m, rfl⟩ := Int.eq_ofNat_of_zero_le h1
          cases hx with
          | @dy _ _ k' hh _ e hk ha _ =>
            obtain ⟨r0, r1, r2⟩ := hs.obj p _ _ _ hg e
            have hha := ha (by omega)
            rcases r2 with ⟨r2, r3⟩ | ⟨o, v, room, t, clen, l', r2, _⟩
            · omega
            · rw [hha, r2]
              refine key (room := room) (y := .dptr p k (m * esz)) (by omega) rfl (.dptr e hk (fun _ => ⟨by rw [Nat.zero_add], len, esz, room, r2⟩)) h3
        · exact h.elim
      · rename_i p k lo len
        split at h
        · rename_i l len0 esz ver st hg
          obtain ⟨hk0, rfl, h1, h2, h3⟩ := h
          obtain ⟨m, rfl⟩ := Int.eq_ofNat_of_zero_le h1
          cases hx with
          | @vw _ _ _ _ k' hh _ e hk ha _ =>
            have hkv := (hs.obj p _ _ _ hg e).1
            rcases ha (by omega) with ⟨r3, r4⟩ | ⟨o, v, len', esz', room, room', r3, r4, r9⟩
            · omega
            · have e2 := e
              rw [r3] at e2
              obtain ⟨_, w1, w2, w3, _⟩ := dyn_at hs hg e2
              subst w2 w3
              rw [r4]
              refine key (room := room') (y := .dptr p k ((lo + m) * esz')) (by omega) rfl (.dptr e hk (fun _ => ⟨by rw [Nat.add_mul], len', esz', room, r3⟩)) h3
        · exact h.elim
      · rename_i l len esz
        obtain ⟨rfl, h1, h2, h3⟩ := h
        obtain ⟨m, rfl⟩ := Int.eq_ofNat_of_zero_le h1
        cases hx with
        | @lst _ _ _ _ _ _ rm _ hf hrm hlen hr hl =>
          refine key (room := rm) (y := .cptr l (m * esz)) (by omega) rfl ?_ h3
          rw [← hlen] at hr
          exact .cptr hf hr hl
        | lstNil => omega
        | lstEmp => omega
      · exact h.elim
    · exact h.elim
  | ixStr x i =>
    simp only [LOp.ok, Bool.and_eq_true] at hok
    have hx := Lx_ok hE hok.1
    have hi := Lx_ok hE hok.2
    simp only [OpL] at h
    simp only [LOp.r, evR]
    generalize i.ev ρ = iv at h hi
    generalize i.r.ev (ρA E) = ia at hi ⊢
    generalize x.ev ρ = v at h hx
    generalize x.r.ev (ρA E) = a at hx ⊢
    have key : ∀ {l : List UInt8} {k : IntKind} {m : Nat}, m < l.length → K (.b (l.getD m 0)) G → OpRes P c G K (match AV.str l.length (packL l), AV.int k (Int.ofNat m) with
        | .str len n, .int _ (.ofNat i) => match Nat.blt i len with
          | true => .val (.int .u8 (Int.ofNat (Nat.mod (Nat.div n (Nat.pow 256 i)) 256))) c.H
          | false => .no
        | _, _ => .no) := by
      intro l k m h1 h2
      have b1 : Nat.blt m l.length = true := by unfold Nat.blt; exact Nat.ble_eq_true_of_le h1
      dsimp only
      rw [b1]
      refine .same hs (.b' ?_) h2
      have := packL_get (List.getElem?_eq_getElem h1)
      show Int.ofNat (packL l / 256 ^ m % 256) = _
      rw [this, List.getD_eq_getElem?_getD, List.getElem?_eq_getElem h1]
      rfl
    split at h
    · rename_i l n
      obtain ⟨h1, h2, h3⟩ := h
      obtain ⟨m, rfl⟩ := Int.eq_ofNat_of_zero_le h1
      cases hx; cases hi
      exact key (k := .i64) (by omega) h3
    · rename_i l n
      obtain ⟨h2, h3⟩ := h
      cases hx; cases hi
      exact key (k := .u64) h2 h3
    · exact h.elim
  | extract i x =>
    have hx := Lx_ok hE hok
    simp only [OpL] at h
    simp only [LOp.r, evR]
    generalize x.ev ρ = v at h hx
    generalize x.r.ev (ρA E) = a at hx ⊢
    split at h
    · rename_i l
      cases hx with
      | tup hl =>
        dsimp only
        obtain ⟨v, hv, h⟩ := h
        obtain ⟨a, q1, q2⟩ := hl.get hv
        refine .ret hs ?_
        rw [q1]
        exact .mk q2 h
    · exact h.elim
  | lenStr x =>
    have hx := Lx_ok hE hok
    simp only [OpL] at h
    simp only [LOp.r, evR]
    generalize x.ev ρ = v at h hx
    generalize x.r.ev (ρA E) = a at hx ⊢
    split at h
    · cases hx; exact .same hs (.i _) h
    · exact h.elim
  | lenSl x =>
    obtain ⟨n, q1, q2⟩ := lenL_ok hs (Lx_ok hE hok) (show lenL G (x.ev ρ) (fun n => K (.i n) G) from h)
    simp only [LOp.r, evR]
    rcases q2 with ⟨q2, rfl⟩ | ⟨q2, rfl⟩ | ⟨o, v, i, esz, room, q2⟩
    · rw [q2]; exact .same hs (.i 0) q1
    · rw [q2]; exact .same hs (.i 0) q1
    · rw [q2]; exact .same hs (.i n) q1
  | maxi mx x y =>
    simp only [LOp.ok, Bool.and_eq_true] at hok
    have hx := Lx_ok hE hok.1
    have hy := Lx_ok hE hok.2
    simp only [OpL] at h
    simp only [LOp.r, evR, List.map_cons, List.map_nil]
    generalize y.ev ρ = yv at h hy
    generalize y.r.ev (ρA E) = ya at hy ⊢
    generalize x.ev ρ = v at h hx
    generalize x.r.ev (ρA E) = a at hx ⊢
    split at h
    · cases hx; cases hy
      dsimp only
      rw [maxi_i]
      exact .same hs (.i _) h
    · cases hx; cases hy
      dsimp only
      rw [maxi_u]
      exact .same hs (.u _) h
    · exact h.elim
  | appZ size z s x =>
    simp only [LOp.ok, Bool.and_eq_true] at hok
    have hz := scals_AR c hok.1.1
    have hss := Lx_ok hE hok.1.2
    have hx := Lx_ok hE hok.2
    simp only [OpL] at h
    simp only [LOp.r, evR]
    generalize x.ev ρ = v at h hx
    generalize x.r.ev (ρA E) = a at hx ⊢
    split at h
    · rename_i n
      obtain ⟨h1, h2, h3, h4⟩ := h
      obtain ⟨m, rfl⟩ := Int.eq_ofNat_of_zero_le h1
      cases hx
      have b1 : Nat.ble m 1048576 = true := Nat.ble_eq_true_of_le (by omega)
      show OpRes P c G K (match Nat.ble m 1048576 with
        | true => appendA c.H size (s.r.ev (ρA E)) m (repeatL (toAs z) m)
        | false => .no)
      rw [b1]
      exact appL_ok hs hss (hz.rep m) (by rw [repL_length, h3]) h4
    · exact h.elim
  | appG size s x =>
    simp only [LOp.ok, Bool.and_eq_true] at hok
    have hss := Lx_ok hE hok.1
    have hx := Lx_ok hE hok.2
    simp only [OpL] at h
    simp only [LOp.r, evR]
    obtain ⟨n, l, l', q1, q2, q3, q4, q5⟩ := rowL_ok hs hx h
    rw [q1]
    have b1 : Nat.ble n 1048576 = true := Nat.ble_eq_true_of_le q4
    dsimp only
    rw [b1]
    exact appL_ok hs hss q2 q3 q5
  | copy size d x =>
    simp only [LOp.ok, Bool.and_eq_true] at hok
    have hd := Lx_ok hE hok.1
    have hx := Lx_ok hE hok.2
    simp only [OpL] at h
    simp only [LOp.r, evR]
    obtain ⟨n, l, l', q1, q2, q3, q4⟩ := rowL_ok hs hx h
    rw [q1]
    dsimp only
    have hmin : ∀ a b : Nat, minN a b = min a b := fun a b => by
      unfold minN
      cases hb : Nat.ble a b with
      | true => have := Nat.le_of_ble_eq_true hb; simp only; omega
      | false =>
        have : ¬ a ≤ b := fun q => by rw [Nat.ble_eq_true_of_le q] at hb; cases hb
        simp only; omega
    generalize d.ev ρ = v at q4 hd
    generalize d.r.ev (ρA E) = a at hd ⊢
    split at q4
    · rename_i p k
      split at q4
      · rename_i r len esz ver st hg
        obtain ⟨hk0, rfl, h⟩ := q4
        cases hd with
        | @dy _ _ k' hh _ e hk ha _ =>
          obtain ⟨r0, r1, r2⟩ := hs.obj p _ _ _ hg e
          have hha := ha (by omega)
          rcases r2 with ⟨r2, r3⟩ | ⟨o, v, room, t, clen, r', r2, r3⟩
          · subst r3
            have : r = [] := List.eq_nil_of_length_eq_zero (by simpa using r1)
            subst this
            rw [hha, r2]
            dsimp only
            have hm : min n 0 = 0 := by omega
            rw [hm] at h
            simp only [Nat.zero_mul, List.take_zero] at h
            obtain ⟨p1, p2, _⟩ := hs.upd (k' := k') (x' := hh) (ob' := .dyn (layLV [] 0 []) 0 esz ver (st + 1)) (H' := c.H) hg rfl e (Nat.le_refl _) (fun _ _ _ => rfl) (fun o e' => ⟨.inl e', hs.lt o ⟨p, _, _, _, hg, rfl, e, e'⟩⟩) (Nat.le_refl _) (fun _ => rfl) (fun _ => rfl) (.inl (Nat.lt_succ_self _))
              (fun _ => ⟨r0, by simp [layLV], .inl ⟨r2, rfl⟩⟩)
            exact ⟨⟨c.hd.set p (k', hh), c.Fz, c.H⟩, .i (0 : Nat), _, rfl, p1, p2, .i _, h⟩
          · have hw : writeL G (.dptr p k 0) (l.take (min n len * esz)) (fun G' => K (.i (min n len : Nat)) G') := by
              unfold writeL
              dsimp only
              rw [hg]
              refine ⟨hk0, ?_, h⟩
              rw [r1, List.length_take, Nat.zero_add]
              exact Nat.le_trans (Nat.min_le_left _ _) (Nat.mul_le_mul_right _ (Nat.min_le_right _ _))
            obtain ⟨o2, v2, i2, H', c', G', w1, w2, w3, w4, w5, w6⟩ := writeL_ok hs (a := .ptr o v 0) (.dptr e hk (fun _ => ⟨rfl, len, esz, room, r2⟩)) (q2.take (min n len * esz)) hw
            cases w1
            rw [hha, r2]
            dsimp only
            rw [Nat.beq_refl, hmin]
            dsimp only
            rw [show Nat.mul (min n len) esz = min n len * esz from rfl, w2]
            exact ⟨c', _, G', w3, w4, w5, .i _, w6⟩
      · exact q4.elim
    · rename_i p k lo len
      split at q4
      · rename_i r len0 esz ver st hg
        obtain ⟨hk0, rfl, hle, h⟩ := q4
        cases hd with
        | @vw _ _ _ _ k' hh _ e hk ha _ =>
          obtain ⟨r0, r1, r2⟩ := hs.obj p _ _ _ hg e
          have noth : len = 0 → (a = .nilSl ∨ a = .emp) → OpRes P c G K (.val (.int .i64 0) c.H) := by
            intro hl0 _
            subst hl0
            have hm : min n 0 = 0 := by omega
            rw [hm] at h
            simp only [Nat.zero_mul, List.take_zero] at h
            have hlay : layLV r (lo * esz) [] = r := by unfold layLV; simp
            rw [hlay] at h
            obtain ⟨p1, p2, _⟩ := hs.upd (k' := k') (x' := hh) (ob' := .dyn r len0 esz ver (st + 1)) (H' := c.H) hg rfl e (Nat.le_refl _) (fun _ _ _ => rfl) (fun o e' => ⟨.inl e', hs.lt o ⟨p, _, _, _, hg, rfl, e, e'⟩⟩) (Nat.le_refl _) (fun _ => rfl) (fun _ => rfl) (.inl (Nat.lt_succ_self _))
              (fun hle' => (hs.obj p _ _ _ hg e).mono hle' (fun _ _ => rfl))
            exact ⟨⟨c.hd.set p (k', hh), c.Fz, c.H⟩, .i (0 : Nat), _, rfl, p1, p2, .i _, h⟩
          rcases ha (by omega) with ⟨r3, r4⟩ | ⟨o, v, len', esz', room, room', r3, r4, r9⟩
          · have := noth r3 r4
            rcases r4 with rfl | rfl
            · exact this
            · exact this
          · have e2 := e
            rw [r3] at e2
            obtain ⟨_, w1, w2, w3, _⟩ := dyn_at hs hg e2
            subst w2 w3
            have hw : writeL G (.dptr p k (lo * esz')) (l.take (min n len * esz')) (fun G' => K (.i (min n len : Nat)) G') := by
              unfold writeL
              dsimp only
              rw [hg]
              refine ⟨hk0, ?_, h⟩
              rw [List.length_take]
              have h1 : min (min n len * esz') l.length ≤ len * esz' := Nat.le_trans (Nat.min_le_left _ _) (Nat.mul_le_mul_right _ (Nat.min_le_right _ _))
              rw [Nat.add_mul] at hle
              omega
            obtain ⟨o2, v2, i2, H', c', G', u1, u2, u3, u4, u5, u6⟩ := writeL_ok hs (a := .ptr o v (lo * esz')) (.dptr e hk (fun _ => ⟨rfl, len', esz', room, r3⟩)) (q2.take (min n len * esz')) hw
            cases u1
            rw [r4]
            dsimp only
            rw [Nat.beq_refl, hmin]
            dsimp only
            rw [show Nat.mul (min n len) esz' = min n len * esz' from rfl, u2]
            exact ⟨c', _, G', u3, u4, u5, .i _, u6⟩
      · exact q4.elim
    · exact q4.elim
  | callV f args =>
    simp only [LOp.ok, Bool.and_eq_true] at hok
    have hf := Lx_ok hE hok.1
    have ha := Lxs_ok hE hok.2
    simp only [OpL] at h
    simp only [LOp.r, evR]
    generalize f.ev ρ = v at h hf
    generalize f.r.ev (ρA E) = a at hf ⊢
    split at h
    · rename_i g l r
      have hcb := h.1
      cases hf with
      | fn hl hr =>
        rename_i l' r'
        have key : callVal P c.H (.fn (.func g) l' r') ((rxs args).map (·.ev (ρA E))) = .call (.fn g) (l' ++ (rxs args).map (·.ev (ρA E)) ++ r') := by
          have k2 : callFn P (.fn (.func g) l' r') ((rxs args).map (·.ev (ρA E))) = .call (.fn g) (l' ++ (rxs args).map (·.ev (ρA E)) ++ r') := by
            unfold callFn
            dsimp only
            rw [if_pos hcb.1]
          unfold callVal
          split
          · rename_i g' e
            cases e
            rw [hcb.2]
            exact k2
          · exact k2
        rw [key]
        exact ⟨.fn g, _, rfl, (hl.append ha).append hr, h⟩
    · rename_i p r
      cases hf with
      | yield e => exact ⟨.yield p, _, e, ha, h⟩
    · exact h.elim
end res
end Go.Sv
