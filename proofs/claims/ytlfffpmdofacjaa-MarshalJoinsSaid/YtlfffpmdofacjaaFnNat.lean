/- Naturals of limbs: what a row of limbs tells; plain mathematics. -/
import Derived.Test.YtlfffpmdofacjaaLgLaw
namespace Go.Sv

theorem u_eq_of {x : UInt64} {n : Nat} (h : x.toNat = n) : x = UInt64.ofNat n := by
  apply UInt64.toNat_inj.1
  rw [UInt64.toNat_ofNat', h]
  have := x.toNat_lt
  rw [← h, Nat.mod_eq_of_lt this]

def val : List UInt64 → Nat
  | [] => 0
  | x :: l => x.toNat + 18446744073709551616 * val l
theorem pow64_succ (n : Nat) : 2 ^ (64 * (n + 1)) = 18446744073709551616 * 2 ^ (64 * n) := by
  rw [Nat.mul_add, Nat.pow_add, Nat.mul_comm]
theorem val_append : ∀ a b : List UInt64, val (a ++ b) = val a + 2 ^ (64 * a.length) * val b
  | [], b => by simp [val]
  | x :: a, b => by
    rw [List.cons_append, val, val, val_append a b, List.length_cons, pow64_succ, Nat.mul_add, Nat.mul_assoc]; omega
theorem val_lt : ∀ a : List UInt64, val a < 2 ^ (64 * a.length)
  | [] => by simp [val]
  | x :: a => by
    have h1 := x.toNat_lt
    have h2 := val_lt a
    rw [val, List.length_cons, pow64_succ]
    omega
theorem val_single (x : UInt64) : val [x] = x.toNat := by simp [val]
theorem val_snoc (a : List UInt64) (x : UInt64) : val (a ++ [x]) = val a + 2 ^ (64 * a.length) * x.toNat := by
  rw [val_append, val_single]
theorem val_rep0 : ∀ n, val (List.replicate n 0) = 0
  | 0 => rfl
  | n + 1 => by rw [List.replicate_succ, val, val_rep0 n]; rfl
theorem take_succ_getD {a : List UInt64} {n : Nat} (h : n < a.length) : a.take (n + 1) = a.take n ++ [a.getD n 0] := by
  rw [List.take_succ_eq_append_getElem h]; simp [h]
theorem val_take_succ {a : List UInt64} {n : Nat} (h : n < a.length) : val (a.take (n + 1)) = val (a.take n) + 2 ^ (64 * n) * (a.getD n 0).toNat := by
  rw [take_succ_getD h, val_snoc, List.length_take, Nat.min_eq_left (by omega)]

/-- The limbs of a number, none of them 0 at the end. -/
def toLf : Nat → Nat → List UInt64
  | 0, _ => []
  | f + 1, n => if n = 0 then [] else UInt64.ofNat n :: toLf f (n / 18446744073709551616)
def toL (n : Nat) : List UInt64 := toLf n n
theorem toLf_more : ∀ (f g n : Nat), n ≤ f → n ≤ g → toLf f n = toLf g n
  | 0, 0, _, _, _ => rfl
  | 0, g + 1, n, h, _ => by
    have : n = 0 := by omega
    subst this; simp [toLf]
  | f + 1, 0, n, _, h => by
    have : n = 0 := by omega
    subst this; simp [toLf]
  | f + 1, g + 1, n, h1, h2 => by
    simp only [toLf]
    by_cases h0 : n = 0
    · simp [h0]
    · rw [if_neg h0, if_neg h0, toLf_more f g (n / 18446744073709551616) (by omega) (by omega)]
theorem toL_zero : toL 0 = [] := rfl
theorem toL_pos {n : Nat} (h : n ≠ 0) : toL n = UInt64.ofNat n :: toL (n / 18446744073709551616) := by
  unfold toL
  cases n with
  | zero => exact absurd rfl h
  | succ n =>
    rw [toLf, if_neg h, toLf_more n ((n + 1) / 18446744073709551616) _ (by omega) (Nat.le_refl _)]
theorem val_toL (n : Nat) : val (toL n) = n := by
  induction n using Nat.strongRecOn with
  | _ n ih =>
    by_cases h : n = 0
    · subst h; rfl
    · rw [toL_pos h, val, ih _ (by omega), UInt64.toNat_ofNat']
      omega
/-- No limb 0 at the end. -/
def Trm (l : List UInt64) : Prop := l = [] ∨ l.getLast?.getD 0 ≠ 0
theorem Trm_cons {x : UInt64} {l : List UInt64} (h : Trm (x :: l)) : Trm l := by
  cases l with
  | nil => exact .inl rfl
  | cons y l =>
    rcases h with h | h
    · cases h
    · exact .inr (by simpa [List.getLast?_cons_cons] using h)
theorem val_pos_of_Trm : ∀ {l : List UInt64}, l ≠ [] → Trm l → val l ≠ 0
  | [], h, _ => absurd rfl h
  | [x], _, h => by
    rcases h with h | h
    · cases h
    · simp at h
      rw [val_single]
      intro e
      exact h (UInt64.toNat_inj.1 e)
  | x :: y :: l, _, h => by
    have := val_pos_of_Trm (l := y :: l) (by simp) (Trm_cons h)
    rw [val]; omega
theorem toL_val : ∀ {l : List UInt64}, Trm l → toL (val l) = l
  | [], _ => rfl
  | x :: l, h => by
    have hp := val_pos_of_Trm (by simp) h
    rw [toL_pos hp]
    have hx := x.toNat_lt
    have e1 : UInt64.ofNat (val (x :: l)) = x := by
      apply UInt64.toNat_inj.1
      rw [UInt64.toNat_ofNat', val]
      omega
    have e2 : val (x :: l) / 18446744073709551616 = val l := by rw [val]; omega
    rw [e1, e2, toL_val (Trm_cons h)]
theorem Trm_snoc {l : List UInt64} {x : UInt64} (h : x ≠ 0) : Trm (l ++ [x]) := .inr (by simpa using h)
theorem Trm_toL (n : Nat) : Trm (toL n) := by
  induction n using Nat.strongRecOn with
  | _ n ih =>
    by_cases h : n = 0
    · subst h; exact .inl rfl
    · rw [toL_pos h]
      have := ih (n / 18446744073709551616) (by omega)
      by_cases h2 : n / 18446744073709551616 = 0
      · rw [h2, toL_zero]
        refine .inr ?_
        simp
        intro e
        have := congrArg UInt64.toNat e
        rw [UInt64.toNat_ofNat'] at this
        simp at this
        omega
      · rw [toL_pos h2] at this ⊢
        rcases this with e | e
        · cases e
        · exact .inr (by simpa [List.getLast?_cons_cons] using e)
theorem toL_inj {m n : Nat} (h : toL m = toL n) : m = n := by rw [← val_toL m, h, val_toL]
theorem toL_length_le {n k : Nat} (h : n < 2 ^ (64 * k)) : (toL n).length ≤ k := by
  induction k generalizing n with
  | zero => have : n = 0 := by simpa using h
            subst this; simp [toL_zero]
  | succ k ih =>
    by_cases h0 : n = 0
    · subst h0; simp [toL_zero]
    · rw [toL_pos h0, List.length_cons]
      have := ih (n := n / 18446744073709551616) (by rw [pow64_succ] at h; exact Nat.div_lt_of_lt_mul h)
      omega
theorem toL_length_val (a : List UInt64) : (toL (val a)).length ≤ a.length := toL_length_le (val_lt a)
theorem lt_of_toL_length {n k : Nat} (h : (toL n).length ≤ k) : n < 2 ^ (64 * k) := by
  have := val_lt (toL n)
  rw [val_toL] at this
  exact Nat.lt_of_lt_of_le this (Nat.pow_le_pow_right (by omega) (by omega))
theorem toL_len_iff (n k : Nat) : (toL n).length ≤ k ↔ n < 2 ^ (64 * k) := ⟨lt_of_toL_length, toL_length_le⟩
theorem toL_eq_nil {n : Nat} : toL n = [] ↔ n = 0 := ⟨fun h => by rw [← val_toL n, h]; rfl, fun h => by rw [h]; rfl⟩
theorem val_inj_length : ∀ {a b : List UInt64}, a.length = b.length → val a = val b → a = b
  | [], [], _, _ => rfl
  | [], _ :: _, h, _ => by simp at h
  | _ :: _, [], h, _ => by simp at h
  | x :: a, y :: b, h, e => by
    have h1 := x.toNat_lt
    have h2 := y.toNat_lt
    rw [val, val] at e
    have e1 : x.toNat = y.toNat := by omega
    have e2 : val a = val b := by omega
    rw [UInt64.toNat_inj.1 e1, val_inj_length (by simpa using h) e2]
theorem toL_fit {a : List UInt64} : toL (val a) ++ List.replicate (a.length - (toL (val a)).length) 0 = a := by
  apply val_inj_length
  · have := toL_length_val a
    simp; omega
  · rw [val_append, val_rep0, val_toL]; omega

/-! ### Rows of limbs as results -/
def RU (l : List UInt64) : LObj := .dyn (l.map .u) l.length 1 0 0
def RowAt (G : LHeap) (v : LV) (l : List UInt64) : Prop := (v = .nilSl ∧ l = []) ∨ ∃ p k st, v = .dy p k ∧ G[p]? = some (.dyn (l.map .u) l.length 1 k st)
theorem RowAt.sel {G : LHeap} {v : LV} {l : List UInt64} (h : RowAt G v l) : SelR G [v] [RU l] := by
  rcases h with ⟨rfl, rfl⟩ | ⟨p, k, st, rfl, hg⟩
  · simp [RU]
  · simp [RU, hg]
theorem RU_ok {l : List UInt64} : ∀ (j : Nat) (ob : LObj), [RU l][j]? = some ob → ∃ c len esz, ob = .dyn c len esz 0 0 ∧ c.all LV.scal = true := by
  intro j ob e
  cases j with
  | zero => simp at e; subst e; exact ⟨_, _, _, rfl, by simp⟩
  | succ j => simp at e
theorem RU_ok2 {l r : List UInt64} : ∀ (j : Nat) (ob : LObj), [RU l, RU r][j]? = some ob → ∃ c len esz, ob = .dyn c len esz 0 0 ∧ c.all LV.scal = true := by
  intro j ob e
  match j with
  | 0 => simp at e; subst e; exact ⟨_, _, _, rfl, by simp⟩
  | 1 => simp at e; subst e; exact ⟨_, _, _, rfl, by simp⟩
  | j + 2 => simp at e
theorem FnS.row {P : Program} {f : Nat} {args : List LV} {l : List UInt64} (h : CallL P (.fn f) args [] fun v G => RowAt G v l) : FnS P f args (.dy 0 0) [RU l] :=
  FnS.mk rfl (h.mono fun v G e => ⟨[v], by simp, rfl, e.sel⟩) RU_ok
theorem FnS.rowE {P : Program} {f : Nat} {args : List LV} {l : List UInt64} {e : Int} (h : CallL P (.fn f) args [] fun v G => ∃ w, v = .tup [w, .i e] ∧ RowAt G w l) : FnS P f args (.tup [.dy 0 0, .i e]) [RU l] :=
  FnS.mk rfl (h.mono fun v G ⟨w, e1, e2⟩ => ⟨[w], by simp [e1], rfl, e2.sel⟩) RU_ok

/-! ### Words -/
def addC (a b : UInt64) : Bool → UInt64 × Bool
  | false => (a + b, decide (a + b < a))
  | true => (a + b + 1, decide (a + b < a) || decide (a + b + 1 = 0))
def subC (a b : UInt64) : Bool → UInt64 × Bool
  | false => (a - b, decide (a < b))
  | true => (a - b - 1, decide (a < b) || decide (a - b = 0))
theorem u_zero_iff (x : UInt64) : x = 0 ↔ x.toNat = 0 := ⟨fun h => by rw [h]; rfl, fun h => UInt64.toNat_inj.1 (by rw [h]; rfl)⟩
theorem toNat_ite (b : Bool) : b.toNat = if b = true then 1 else 0 := by cases b <;> rfl
theorem addC_val (a b : UInt64) (c : Bool) : (addC a b c).1.toNat + 18446744073709551616 * (addC a b c).2.toNat = a.toNat + b.toNat + c.toNat := by
  have h1 := a.toNat_lt
  have h2 := b.toNat_lt
  cases c with
  | false =>
    simp only [addC, toNat_ite, decide_eq_true_eq, UInt64.lt_iff_toNat_lt, UInt64.toNat_add]
    split <;> simp <;> omega
  | true =>
    simp only [addC, toNat_ite, Bool.or_eq_true, decide_eq_true_eq, UInt64.lt_iff_toNat_lt, u_zero_iff, UInt64.toNat_add, UInt64.toNat_one]
    split <;> simp <;> omega
theorem subC_val (a b : UInt64) (c : Bool) : (subC a b c).1.toNat + b.toNat + c.toNat = a.toNat + 18446744073709551616 * (subC a b c).2.toNat := by
  have h1 := a.toNat_lt
  have h2 := b.toNat_lt
  cases c with
  | false =>
    have e : (subC a b false).2 = decide (a.toNat < b.toNat) := by simp [subC, UInt64.lt_iff_toNat_lt]
    rw [e]
    simp only [subC, UInt64.toNat_sub]
    by_cases h : a.toNat < b.toNat <;> simp [h] <;> omega
  | true =>
    have e : (subC a b true).2 = decide (a.toNat ≤ b.toNat) := by
      simp only [subC, UInt64.lt_iff_toNat_lt, u_zero_iff, UInt64.toNat_sub]
      by_cases h : a.toNat ≤ b.toNat
      · by_cases h' : a.toNat < b.toNat
        · simp [h, h']
        · have : a.toNat = b.toNat := by omega
          simp [this]; omega
      · simp [h]; omega
    rw [e]
    simp only [subC, UInt64.toNat_sub, UInt64.toNat_one]
    by_cases h : a.toNat ≤ b.toNat <;> simp [h] <;> omega
/-! ### Rows that grow -/
theorem gapp {G : LHeap} {p : Nat} {ob : LObj} (h : G[p]? = some ob) (x : LHeap) : (G ++ x)[p]? = some ob := by
  rw [List.getElem?_append_left (List.getElem?_eq_some_iff.1 h).1]; exact h
theorem gset {G : LHeap} {p : Nat} {ob : LObj} (h : G[p]? = some ob) (ob' : LObj) : (G.set p ob')[p]? = some ob' := List.getElem?_set_self (List.getElem?_eq_some_iff.1 h).1
theorem gset_ne {G : LHeap} {p q : Nat} (h : q ≠ p) (ob' : LObj) : (G.set p ob')[q]? = G[q]? := List.getElem?_set_ne (Ne.symm h)
theorem RowAt.app {G : LHeap} {v : LV} {l : List UInt64} (h : RowAt G v l) (x : LHeap) : RowAt (G ++ x) v l := by
  rcases h with h | ⟨p, k, st, h1, h2⟩
  · exact .inl h
  · exact .inr ⟨p, k, st, h1, gapp h2 x⟩
@[simp] theorem dats_rep (n : Nat) (x : UInt64) : dats (List.replicate n (LV.u x)) = true := by
  rw [show List.replicate n (LV.u x) = (List.replicate n x).map LV.u by simp]; exact dat_us _
theorem flat_u (l : List UInt64) : l.flatMap (fun x => [LV.u x]) = l.map .u := by
  induction l with
  | nil => rfl
  | cons x l ih => simp [ih]
theorem RowAt.cells {G : LHeap} {v : LV} {l : List UInt64} (h : RowAt G v l) : v.cells = some [v] := by
  rcases h with ⟨rfl, rfl⟩ | ⟨p, k, st, rfl, h2⟩ <;> rfl
theorem appL_row {G : LHeap} {v : LV} {l xs : List UInt64} {n : Nat} {new : List LV} {K : LV → LHeap → Prop} (h : RowAt G v l) (hn : n = xs.length) (hnew : new = xs.map .u) (hl : l.length ≤ 1000000000)
    (k : ∀ v' G', RowAt G' v' (l ++ xs) → (∀ (q : Nat) (ob : LObj), G[q]? = some ob → (∀ k, v ≠ .dy q k) → G'[q]? = some ob ∧ ∀ k, v' ≠ .dy q k) → K v' G') : appL G 1 v n new K := by
  subst hn hnew
  rcases h with ⟨rfl, rfl⟩ | ⟨p, ver, st, rfl, hg⟩
  · refine k _ _ (.inr ⟨G.length, 0, 0, rfl, by simp⟩) (fun q ob hq _ => ⟨gapp hq _, fun k e => ?_⟩)
    cases e
    have := (List.getElem?_eq_some_iff.1 hq).1
    omega
  · simp only [appL, hg]
    refine ⟨by simp, ⟨by simp, by simp⟩, by simpa using hl, k _ _ (.inr ⟨p, ver + 1, st + 1, rfl, by rw [gset hg]; simp⟩) (fun q ob hq hne => ?_)⟩
    have hqp : q ≠ p := fun e => hne ver (by rw [e])
    exact ⟨by rw [gset_ne hqp]; exact hq, fun k e => by cases e; exact hqp rfl⟩
theorem RowAt.bor {G : LHeap} {v : LV} {l : List UInt64} (h : RowAt G v l) : bor G v (LU l) := by
  rcases h with ⟨rfl, rfl⟩ | ⟨p, k, st, rfl, hg⟩
  · exact .inr ⟨1, by simp⟩
  · exact ⟨_, _, _, st, rfl, hg, by simp⟩
theorem bors1 {G : LHeap} {v d : LV} (h : Go.Sv.bor G v d) : bors G [v] [d] := ⟨d, [], rfl, h, rfl⟩
theorem bors2 {G : LHeap} {v d v' d' : LV} (h : Go.Sv.bor G v d) (h' : Go.Sv.bor G v' d') : bors G [v, v'] [d, d'] := ⟨d, _, rfl, h, bors1 h'⟩
theorem bors3 {G : LHeap} {v d v' d' v'' d'' : LV} (h : Go.Sv.bor G v d) (h' : Go.Sv.bor G v' d') (h'' : Go.Sv.bor G v'' d'') : bors G [v, v', v''] [d, d', d''] := ⟨d, _, rfl, h, bors2 h' h''⟩
theorem RowAt.new {G : LHeap} {l : List UInt64} : RowAt (G ++ [RU l]) (.dy G.length 0) l := .inr ⟨G.length, 0, 0, rfl, by simp [RU]⟩
/-- A call that hands back a new row. -/
theorem CallL_row {P : Program} {f : Nat} {args dargs : List LV} {l : List UInt64} {G : LHeap} {K : LV → LHeap → Prop} (hc : FnS P f dargs (.dy 0 0) [RU l]) (hb : bors G args dargs) (k : K (.dy G.length 0) (G ++ [RU l])) : CallL P (.fn f) args G K :=
  CallL_S hc hb (by simpa using k)
theorem CallL_last {P : Program} {f : Nat} {args dargs : List LV} {l l' : List UInt64} {G : LHeap} (hc : FnS P f dargs (.dy 0 0) [RU l]) (hb : bors G args dargs) (e : l = l') : CallL P (.fn f) args G fun v G' => RowAt G' v l' := by
  subst e; exact CallL_row hc hb .new
theorem val_take_big {a : List UInt64} {n : Nat} (h : a.length ≤ n) : val (a.take n) = val a := by rw [List.take_of_length_le h]
theorem val_bound {a : List UInt64} {n : Nat} (h : a.length ≤ n) : val a < 2 ^ (64 * n) := Nat.lt_of_lt_of_le (val_lt a) (Nat.pow_le_pow_right (by omega) (by omega))
theorem pow64 (m : Nat) : 2 ^ (64 * (m + 1)) = 2 ^ (64 * m) * 18446744073709551616 := by
  rw [Nat.pow_mul, Nat.pow_mul, Nat.pow_succ]
theorem val_take_next (a : List UInt64) (n : Nat) : val (a.take (n + 1)) = val (a.take n) + 2 ^ (64 * n) * (a.getD n 0).toNat := by
  by_cases h : n < a.length
  · exact val_take_succ h
  · rw [List.take_of_length_le (by omega), List.take_of_length_le (by omega)]
    have : a.getD n 0 = 0 := by simp; rw [List.getElem?_eq_none (by omega)]; rfl
    rw [this]; simp

theorem val_one (x : UInt64) : val [x] = x.toNat := by simp [val]
theorem val_getD : ∀ {a b : List UInt64}, val a = val b → ∀ i, a.getD i 0 = b.getD i 0
  | [], [], _, _ => rfl
  | [], y :: b, h, i => by
    simp only [val] at h
    have hy : y = 0 := (u_zero_iff y).2 (by omega)
    have hb : val [] = val b := by simp only [val]; omega
    have ih := val_getD hb
    cases i with
    | zero => simp [hy]
    | succ i => simpa using ih i
  | x :: a, [], h, i => by
    simp only [val] at h
    have hx : x = 0 := (u_zero_iff x).2 (by omega)
    have ha : val a = val [] := by simp only [val]; omega
    have ih := val_getD ha
    cases i with
    | zero => simp [hx]
    | succ i => simpa using ih i
  | x :: a, y :: b, h, i => by
    simp only [val] at h
    have h1 := x.toNat_lt
    have h2 := y.toNat_lt
    have e : x.toNat = y.toNat := by omega
    have ih := val_getD (a := a) (b := b) (by omega)
    cases i with
    | zero => simpa using UInt64.toNat_inj.1 e
    | succ i => simpa using ih i
theorem no_carry {x y z Q B : Nat} {c : Bool} (hB : 2 ≤ B) (hv : x + Q * B * c.toNat = y + z) (hy : y < Q) (hz : z < Q) : x = y + z := by
  cases c
  · simpa using hv
  · have : Q * 2 ≤ Q * B := Nat.mul_le_mul_left _ hB
    simp at hv; omega
theorem add_end {a b out : List UInt64} {c : Bool} {n m : Nat} (h : n = m + 1) (ha : a.length ≤ m) (hb : b.length ≤ m) (hv : val out + 2 ^ (64 * n) * c.toNat = val a + val b) : val out = val a + val b := by
  subst h
  rw [pow64] at hv
  exact no_carry (by decide) hv (val_bound ha) (val_bound hb)
theorem addn {o A A' Q B s x y c c' : Nat} (hv : o + Q * c = A + A') (h : s + B * c' = x + y + c) : o + Q * s + Q * B * c' = A + Q * x + (A' + Q * y) := by
  have : Q * (s + B * c') = Q * (x + y + c) := by rw [h]
  simp only [Nat.mul_add, ← Nat.mul_assoc] at this
  omega
theorem add_step {a b out : List UInt64} {c : Bool} {i : Nat} (hl : out.length = i) (hv : val out + 2 ^ (64 * i) * c.toNat = val (a.take i) + val (b.take i)) :
    val (out ++ [(addC (a.getD i 0) (b.getD i 0) c).1]) + 2 ^ (64 * (i + 1)) * (addC (a.getD i 0) (b.getD i 0) c).2.toNat = val (a.take (i + 1)) + val (b.take (i + 1)) := by
  rw [val_take_next, val_take_next, pow64, val_append, hl, val_one]
  exact addn hv (addC_val _ _ _)
/-- What arithmetic is, laid open. -/
theorem opened : (∀ a b, addU a b = a + b) ∧ (∀ a b, subU a b = a - b) ∧ (∀ a b, mulU a b = a * b) := ⟨addU_eq, subU_eq, mulU_eq⟩
end Go.Sv
