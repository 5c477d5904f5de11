/- Bytes of words: plain. -/
import Derived.Test.YtlfffpmdofacjaaFnNat
namespace Go.Sv

/-! ### Words and bytes -/
noncomputable def limbN (bs : List UInt8) : Nat → UInt64
  | 0 => 0
  | i + 1 => orU (limbN bs i) (shlU (bU (bs.getD i 0)) (8 * i))
noncomputable def bytesN (n : UInt64) : Nat → List UInt8
  | 0 => []
  | i + 1 => bytesN n i ++ [uB (shrU n (8 * i))]
noncomputable def bytesUs : List UInt64 → List UInt8
  | [] => []
  | x :: l => bytesN x 8 ++ bytesUs l
noncomputable def wordsN (bs : List UInt8) : Nat → List UInt64
  | 0 => []
  | i + 1 => wordsN bs i ++ [limbN ((bs.drop (8 * i)).take 8) 8]
theorem bytesN_length (n : UInt64) : ∀ i, (bytesN n i).length = i
  | 0 => rfl
  | i + 1 => by simp [bytesN, bytesN_length n i]
theorem bytesUs_length : ∀ l : List UInt64, (bytesUs l).length = 8 * l.length
  | [] => rfl
  | x :: l => by simp [bytesUs, bytesN_length, bytesUs_length l]; omega
theorem bytesUs_append : ∀ a b : List UInt64, bytesUs (a ++ b) = bytesUs a ++ bytesUs b
  | [], b => rfl
  | x :: a, b => by simp [bytesUs, bytesUs_append a b]
theorem wordsN_length (bs : List UInt8) : ∀ i, (wordsN bs i).length = i
  | 0 => rfl
  | i + 1 => by simp [wordsN, wordsN_length bs i]
theorem bytesUs_next {a : List UInt64} {i : Nat} (h : i < a.length) : bytesUs (a.take (i + 1)) = bytesUs (a.take i) ++ bytesN (a.getD i 0) 8 := by
  rw [take_succ_getD h, bytesUs_append]; simp [bytesUs]

theorem bytesN_getD (n : UInt64) : ∀ m i, i < m → (bytesN n m).getD i 0 = uB (shrU n (8 * i))
  | 0, i, h => by omega
  | m + 1, i, h => by
    have hl := bytesN_length n m
    by_cases hi : i < m
    · rw [bytesN, List.getD_eq_getElem?_getD, List.getElem?_append_left (by omega), ← List.getD_eq_getElem?_getD]; exact bytesN_getD n m i hi
    · obtain rfl : i = m := by omega
      rw [bytesN, List.getD_eq_getElem?_getD, List.getElem?_append_right (by omega), hl]; simp
theorem byte_nat (n : UInt64) (i : Nat) : (uB (shrU n (8 * i))).toNat = n.toNat / 2 ^ (8 * i) % 256 := by
  rw [shrU_eq, uB_eq]
  have h1 := n.toNat_lt
  have h2 : n.toNat / 2 ^ (8 * i) ≤ n.toNat := Nat.div_le_self _ _
  rw [UInt64.toNat_ofNat_of_lt' (Nat.lt_of_le_of_lt h2 h1)]
  rfl
theorem limbN_next (bs : List UInt8) (k : Nat) (h : k < 8) (hl : (limbN bs k).toNat < 2 ^ (8 * k)) : (limbN bs (k + 1)).toNat = (limbN bs k).toNat + 2 ^ (8 * k) * (bs.getD k 0).toNat := by
  have hb := (bs.getD k 0).toNat_lt
  generalize hbe : bs.getD k 0 = b at hb
  have h1 : b.toNat * 2 ^ (8 * k) < 2 ^ 64 := by
    have : 2 ^ (8 * k) ≤ 2 ^ 56 := Nat.pow_le_pow_right (by decide) (by omega)
    calc b.toNat * 2 ^ (8 * k) ≤ 255 * 2 ^ 56 := Nat.mul_le_mul (by omega) this
      _ < 2 ^ 64 := by decide
  have e1 : (UInt64.ofNat b.toNat).toNat = b.toNat := UInt64.toNat_ofNat_of_lt' (Nat.lt_of_lt_of_le hb (by decide))
  rw [limbN, hbe, orU_eq, shlU_eq, bU_eq, UInt64.toNat_or, e1, UInt64.toNat_ofNat_of_lt' h1, Nat.mul_comm b.toNat, Nat.or_comm, Nat.add_comm]
  exact (Nat.two_pow_add_eq_or_of_lt hl _).symm
theorem limbN_lt (bs : List UInt8) : ∀ k, k ≤ 8 → (limbN bs k).toNat < 2 ^ (8 * k)
  | 0, _ => by simp [limbN]
  | k + 1, h => by
    have ih := limbN_lt bs k (by omega)
    rw [limbN_next bs k (by omega) ih]
    have hb := (bs.getD k 0).toNat_lt
    have : 2 ^ (8 * k) * (bs.getD k 0).toNat ≤ 2 ^ (8 * k) * 255 := Nat.mul_le_mul_left _ (by omega)
    rw [show 8 * (k + 1) = 8 * k + 8 from rfl, Nat.pow_add]
    omega
theorem limb_bytes (n : UInt64) : limbN (bytesN n 8) 8 = n := by
  have : ∀ k, k ≤ 8 → (limbN (bytesN n 8) k).toNat = n.toNat % 2 ^ (8 * k) := by
    intro k
    induction k with
    | zero => intro _; simp [limbN]; omega
    | succ k ih =>
      intro h
      rw [limbN_next _ _ (by omega) (limbN_lt _ _ (by omega)), ih (by omega), bytesN_getD _ _ _ (by omega), byte_nat, show 8 * (k + 1) = 8 * k + 8 from rfl, Nat.pow_add, Nat.mod_mul]
  refine UInt64.toNat_inj.1 ?_
  rw [this 8 (by omega)]
  exact Nat.mod_eq_of_lt n.toNat_lt
theorem bytesUs_drop (l : List UInt64) (i : Nat) : (bytesUs l).drop (8 * i) = bytesUs (l.drop i) := by
  induction l generalizing i with
  | nil => simp [bytesUs]
  | cons x l ih =>
    cases i with
    | zero => simp
    | succ i =>
      rw [bytesUs, show 8 * (i + 1) = (bytesN x 8).length + 8 * i by rw [bytesN_length]; omega, List.drop_append]
      simp [bytesN_length, ih]
theorem words_bytes (l : List UInt64) : ∀ i, i ≤ l.length → wordsN (bytesUs l) i = l.take i
  | 0, _ => by simp [wordsN]
  | i + 1, h => by
    rw [wordsN, words_bytes l i (by omega), take_succ_getD (by omega), bytesUs_drop]
    congr 2
    obtain ⟨x, r, hx⟩ : ∃ x r, l.drop i = x :: r := by
      cases hd : l.drop i with
      | nil => have := congrArg List.length hd; simp at this; omega
      | cons x r => exact ⟨x, r, rfl⟩
    have hg : l.getD i 0 = x := by
      have : (l.drop i)[0]? = some x := by rw [hx]; rfl
      rw [List.getElem?_drop] at this
      simp at this; simp [this]
    rw [hx, hg, bytesUs, List.take_append_of_le_length (by rw [bytesN_length]; omega), List.take_of_length_le (by rw [bytesN_length]; omega), limb_bytes]

/-! ### Rows of bytes -/
def LB (l : List UInt8) : LV := .lst (l.map .b) l.length 1
attribute [simp] LB
def RowB (G : LHeap) (v : LV) (l : List UInt8) : Prop := (v = .nilSl ∧ l = []) ∨ ∃ p k st, v = .dy p k ∧ G[p]? = some (.dyn (l.map .b) l.length 1 k st)
theorem RowB.app {G : LHeap} {v : LV} {l : List UInt8} (h : RowB G v l) (x : LHeap) : RowB (G ++ x) v l := by
  rcases h with h | ⟨p, k, st, h1, h2⟩
  · exact .inl h
  · exact .inr ⟨p, k, st, h1, gapp h2 x⟩
theorem RowB.bor {G : LHeap} {v : LV} {l : List UInt8} (h : RowB G v l) : bor G v (LB l) := by
  rcases h with ⟨rfl, rfl⟩ | ⟨p, k, st, rfl, hg⟩
  · exact .inr ⟨1, by simp⟩
  · exact ⟨_, _, _, st, rfl, hg, by simp⟩
theorem appL_bytes {G : LHeap} {v : LV} {l xs : List UInt8} {n : Nat} {new : List LV} {K : LV → LHeap → Prop} (h : RowB G v l) (hn : n = xs.length) (hnew : new = xs.map .b) (hl : l.length ≤ 1000000000)
    (k : ∀ v' G', RowB G' v' (l ++ xs) → (∀ (q : Nat) (ob : LObj), G[q]? = some ob → (∀ k, v ≠ .dy q k) → G'[q]? = some ob ∧ ∀ k, v' ≠ .dy q k) → K v' G') : appL G 1 v n new K := by
  subst hn hnew
  rcases h with ⟨rfl, rfl⟩ | ⟨p, ver, st, rfl, hg⟩
  · refine k _ _ (.inr ⟨G.length, 0, 0, rfl, by simp⟩) (fun q ob hq _ => ⟨gapp hq _, fun k e => ?_⟩)
    cases e
    have := (List.getElem?_eq_some_iff.1 hq).1
    omega
  · simp only [appL, hg]
    refine ⟨by simp, ⟨by simp, by simp⟩, by simpa using hl, k _ _ (.inr ⟨p, ver + 1, st + 1, rfl, by rw [gset hg]; simp⟩) (fun q ob hq hne => ?_)⟩
    have hqp : q ≠ p := fun e => hne ver (by rw [e])
    exact ⟨by rw [gset_ne hqp]; exact hq, fun k e => by cases e; exact hqp rfl⟩
theorem RowB.str {G : LHeap} {v : LV} {l : List UInt8} {K : List LV → Prop} (h : RowB G v l) (k : K (l.map .b)) : bytL G v K := by
  rcases h with ⟨rfl, rfl⟩ | ⟨p, ver, st, rfl, hg⟩
  · exact k
  · simp only [bytL, hg]; exact ⟨by simp, by simp, by simpa using k⟩
/-! ### Fits -/
def fitE (a : List UInt64) (n : Int) : Int := if n < 0 ∨ 512 < n then 2 else if n < (toL (val a)).length then 3 else 0
def fitR (a : List UInt64) (n : Int) : List UInt64 := if fitE a n = 0 then toL (val a) ++ List.replicate (n.toNat - (toL (val a)).length) 0 else []
theorem fitR_length {a : List UInt64} {n : Int} (h : fitE a n = 0) : ((fitR a n).length : Int) = n ∧ 0 ≤ n ∧ n ≤ 512 := by
  unfold fitR; rw [if_pos h]
  unfold fitE at h
  by_cases h1 : n < 0 ∨ 512 < n
  · rw [if_pos h1] at h; simp at h
  · rw [if_neg h1] at h
    by_cases h2 : n < (toL (val a)).length
    · rw [if_pos h2] at h; simp at h
    · simp; omega
theorem fitE_own {a : List UInt64} (h : a.length ≤ 512) : fitE a a.length = 0 := by
  have := toL_length_val a
  unfold fitE
  rw [if_neg (by omega), if_neg (by omega)]
theorem fitR_own {a : List UInt64} (h : a.length ≤ 512) : fitR a a.length = a := by
  unfold fitR; rw [if_pos (fitE_own h)]; simpa using toL_fit
theorem repU (n : Nat) : repL [LV.u 0] n = (List.replicate n (0 : UInt64)).map .u := by
  induction n with
  | zero => rfl
  | succ n ih => simp [repL, ih, List.replicate_succ]
end Go.Sv
