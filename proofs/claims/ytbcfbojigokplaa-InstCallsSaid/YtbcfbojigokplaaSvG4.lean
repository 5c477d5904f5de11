/- Bytes of words: plain. -/
import Derived.Test.YtbcfbojigokplaaSvG3
import Derived.KernelRfl
namespace Go.Sv

/-! ### Words and bytes -/
noncomputable def limbN (bs : List UInt8) : Nat → UInt64
  | 0 => 0
  | i + 1 => orU (limbN bs i) (shlU (bU (bs.getD i 0)) (8 * i))
noncomputable def bytesN (n : UInt64) : Nat → List UInt8
  | 0 => []
  | i + 1 => bytesN n i ++ [uB (shrU n (8 * i))]
noncomputable def bytesUs : List UInt64 → List UInt8
  | [] => []
  | x :: l => bytesN x 8 ++ bytesUs l
noncomputable def wordsN (bs : List UInt8) : Nat → List UInt64
  | 0 => []
  | i + 1 => wordsN bs i ++ [limbN ((bs.drop (8 * i)).take 8) 8]
theorem bytesN_length (n : UInt64) : ∀ i, (bytesN n i).length = i
  | 0 => rfl
  | i + 1 => by simp [bytesN, bytesN_length n i]
theorem bytesUs_length : ∀ l : List UInt64, (bytesUs l).length = 8 * l.length
  | [] => rfl
  | x :: l => by simp [bytesUs, bytesN_length, bytesUs_length l]; omega
theorem bytesUs_append : ∀ a b : List UInt64, bytesUs (a ++ b) = bytesUs a ++ bytesUs b
  | [], b => rfl
  | x :: a, b => by simp [bytesUs, bytesUs_append a b]
theorem wordsN_length (bs : List UInt8) : ∀ i, (wordsN bs i).length = i
  | 0 => rfl
  | i + 1 => by simp [wordsN, wordsN_length bs i]
theorem bytesUs_next {a : List UInt64} {i : Nat} (h : i < a.length) : bytesUs (a.take (i + 1)) = bytesUs (a.take i) ++ bytesN (a.getD i 0) 8 := by
  rw [take_succ_getD h, bytesUs_append]; simp [bytesUs]

theorem bytesN_getD (n : UInt64) : ∀ m i, i < m → (bytesN n m).getD i 0 = uB (shrU n (8 * i))
  | 0, i, h => by omega
  | m + 1, i, h => by
    have hl := bytesN_length n m
    by_cases hi : i < m
    · rw [bytesN, List.getD_eq_getElem?_getD, List.getElem?_append_left (by omega), ← List.getD_eq_getElem?_getD]; exact bytesN_getD n m i hi
    · obtain rfl : i = m := by omega
      rw [bytesN, List.getD_eq_getElem?_getD, List.getElem?_append_right (by omega), hl]; simp
theorem byte_nat (n : UInt64) (i : Nat) : (uB (shrU n (8 * i))).toNat = n.toNat / 2 ^ (8 * i) % 256 := by
  rw [shrU_eq, uB_eq]
  have h1 := n.toNat_lt
  have h2 : n.toNat / 2 ^ (8 * i) ≤ n.toNat := Nat.div_le_self _ _
  rw [UInt64.toNat_ofNat_of_lt' (Nat.lt_of_le_of_lt h2 h1)]
  rfl
theorem limbN_next (bs : List UInt8) (k : Nat) (h : k < 8) (hl : (limbN bs k).toNat < 2 ^ (8 * k)) : (limbN bs (k + 1)).toNat = (limbN bs k).toNat + 2 ^ (8 * k) * (bs.getD k 0).toNat := by
  have hb := (bs.getD k 0).toNat_lt
  generalize hbe : bs.getD k 0 = b at hb
  have h1 : b.toNat * 2 ^ (8 * k) < 2 ^ 64 := by
    have : 2 ^ (8 * k) ≤ 2 ^ 56 := Nat.pow_le_pow_right (by decide) (by omega)
    calc b.toNat * 2 ^ (8 * k) ≤ 255 * 2 ^ 56 := Nat.mul_le_mul (by omega) this
      _ < 2 ^ 64 := by decide
  have e1 : (UInt64.ofNat b.toNat).toNat = b.toNat := UInt64.toNat_ofNat_of_lt' (Nat.lt_of_lt_of_le hb (by decide))
  rw [limbN, hbe, orU_eq, shlU_eq, bU_eq, UInt64.toNat_or, e1, UInt64.toNat_ofNat_of_lt' h1, Nat.mul_comm b.toNat, Nat.or_comm, Nat.add_comm]
  exact (Nat.two_pow_add_eq_or_of_lt hl _).symm
theorem limbN_lt (bs : List UInt8) : ∀ k, k ≤ 8 → (limbN bs k).toNat < 2 ^ (8 * k)
  | 0, _ => by simp [limbN]
  | k + 1, h => by
    have ih := limbN_lt bs k (by omega)
    rw [limbN_next bs k (by omega) ih]
    have hb := (bs.getD k 0).toNat_lt
    have : 2 ^ (8 * k) * (bs.getD k 0).toNat ≤ 2 ^ (8 * k) * 255 := Nat.mul_le_mul_left _ (by omega)
    rw [show 8 * (k + 1) = 8 * k + 8 from rfl, Nat.pow_add]
    omega
theorem limb_bytes (n : UInt64) : limbN (bytesN n 8) 8 = n := by
  have : ∀ k, k ≤ 8 → (limbN (bytesN n 8) k).toNat = n.toNat % 2 ^ (8 * k) := by
    intro k
    induction k with
    | zero => intro _; simp [limbN]; omega
    | succ k ih =>
      intro h
      rw [limbN_next _ _ (by omega) (limbN_lt _ _ (by omega)), ih (by omega), bytesN_getD _ _ _ (by omega), byte_nat, show 8 * (k + 1) = 8 * k + 8 from rfl, Nat.pow_add, Nat.mod_mul]
  refine UInt64.toNat_inj.1 ?_
  rw [this 8 (by omega)]
  exact Nat.mod_eq_of_lt n.toNat_lt
theorem get_getD {α : Type} {l : List α} {i : Nat} {d : α} (h : i < l.length) : l[i]? = some (l.getD i d) := by simp [h]
theorem byte_val {x y : UInt8} (h : x.toNat = y.toNat) : x = y := UInt8.toNat_inj.1 h
/-- A limb's bytes are those that it was told of. -/
theorem bytes_limb {s : List UInt8} (h : s.length = 8) : bytesN (limbN s 8) 8 = s := by
  have key : ∀ k, k ≤ 8 → ∀ j, j < k → (limbN s k).toNat / 2 ^ (8 * j) % 256 = (s.getD j 0).toNat := by
    intro k
    induction k with
    | zero => intro _ j hj; omega
    | succ k ih =>
      intro hk j hj
      have hlt := limbN_lt s k (by omega)
      rw [limbN_next s k (by omega) hlt]
      by_cases e : j = k
      · subst e
        have hp : 0 < 2 ^ (8 * j) := Nat.pow_pos (by decide)
        rw [Nat.add_mul_div_left _ _ hp, Nat.div_eq_of_lt hlt, Nat.zero_add]
        exact Nat.mod_eq_of_lt (s.getD j 0).toNat_lt
      · have e2 : 8 * k = 8 * j + (8 * (k - j - 1) + 8) := by omega
        have hp : 0 < 2 ^ (8 * j) := Nat.pow_pos (by decide)
        rw [e2, Nat.pow_add, Nat.mul_assoc, Nat.add_mul_div_left _ _ hp, Nat.pow_add, show (2:Nat) ^ 8 = 256 from rfl, Nat.mul_assoc, Nat.mul_left_comm, Nat.add_mul_mod_self_left]
        exact ih (by omega) j (by omega)
  apply List.ext_getElem?
  intro i
  by_cases hi : i < 8
  · rw [get_getD (d := 0) (by rw [bytesN_length]; exact hi), get_getD (d := 0) (by omega), bytesN_getD _ _ _ hi]
    exact congrArg some (byte_val (by rw [byte_nat]; exact key 8 (by omega) i hi))
  · rw [List.getElem?_eq_none (by rw [bytesN_length]; omega), List.getElem?_eq_none (by omega)]
theorem bytesUs_drop (l : List UInt64) (i : Nat) : (bytesUs l).drop (8 * i) = bytesUs (l.drop i) := by
  induction l generalizing i with
  | nil => simp [bytesUs]
  | cons x l ih =>
    cases i with
    | zero => simp
    | succ i =>
      rw [bytesUs, show 8 * (i + 1) = (bytesN x 8).length + 8 * i by rw [bytesN_length]; omega, List.drop_append]
      simp [bytesN_length, ih]
theorem words_bytes (l : List UInt64) : ∀ i, i ≤ l.length → wordsN (bytesUs l) i = l.take i
  | 0, _ => by simp [wordsN]
  | i + 1, h => by
    rw [wordsN, words_bytes l i (by omega), take_succ_getD (by omega), bytesUs_drop]
    congr 2
    obtain ⟨x, r, hx⟩ : ∃ x r, l.drop i = x :: r := by
      cases hd : l.drop i with
      | nil => have := congrArg List.length hd; simp at this; omega
      | cons x r => exact ⟨x, r, rfl⟩
    have hg : l.getD i 0 = x := by
      have : (l.drop i)[0]? = some x := by rw [hx]; rfl
      rw [List.getElem?_drop] at this
      simp at this; simp [this]
    rw [hx, hg, bytesUs, List.take_append_of_le_length (by rw [bytesN_length]; omega), List.take_of_length_le (by rw [bytesN_length]; omega), limb_bytes]

/-! ### Rows of bytes -/
def LB (l : List UInt8) : LV := .lst (l.map .b) l.length 1
attribute [simp] LB
def RowB (G : LHeap) (v : LV) (l : List UInt8) : Prop := (v = .nilSl ∧ l = []) ∨ ∃ p k st, v = .dy p k ∧ G[p]? = some (.dyn (l.map .b) l.length 1 k st)
theorem RowB.app {G : LHeap} {v : LV} {l : List UInt8} (h : RowB G v l) (x : LHeap) : RowB (G ++ x) v l := by
  rcases h with h | ⟨p, k, st, h1, h2⟩
  · exact .inl h
  · exact .inr ⟨p, k, st, h1, gapp h2 x⟩
theorem RowB.bor {G : LHeap} {v : LV} {l : List UInt8} (h : RowB G v l) : bor G v (LB l) := by
  rcases h with ⟨rfl, rfl⟩ | ⟨p, k, st, rfl, hg⟩
  · exact .inr ⟨1, by simp⟩
  · exact ⟨_, _, _, st, rfl, hg, by simp⟩
theorem appL_bytes {G : LHeap} {v : LV} {l xs : List UInt8} {n : Nat} {new : List LV} {K : LV → LHeap → Prop} (h : RowB G v l) (hn : n = xs.length) (hnew : new = xs.map .b) (hl : l.length ≤ 1000000000)
    (k : ∀ v' G', RowB G' v' (l ++ xs) → (∀ (q : Nat) (ob : LObj), G[q]? = some ob → (∀ k, v ≠ .dy q k) → G'[q]? = some ob ∧ ∀ k, v' ≠ .dy q k) → K v' G') : appL G 1 v n new K := by
  subst hn hnew
  rcases h with ⟨rfl, rfl⟩ | ⟨p, ver, st, rfl, hg⟩
  · refine k _ _ (.inr ⟨G.length, 0, 0, rfl, by simp⟩) (fun q ob hq _ => ⟨gapp hq _, fun k e => ?_⟩)
    cases e
    have := (List.getElem?_eq_some_iff.1 hq).1
    omega
  · simp only [appL, hg]
    refine ⟨by simp, ⟨by simp, by simp⟩, by simpa using hl, k _ _ (.inr ⟨p, ver + 1, st + 1, rfl, by rw [gset hg]; simp⟩) (fun q ob hq hne => ?_)⟩
    have hqp : q ≠ p := fun e => hne ver (by rw [e])
    exact ⟨by rw [gset_ne hqp]; exact hq, fun k e => by cases e; exact hqp rfl⟩
theorem RowB.str {G : LHeap} {v : LV} {l : List UInt8} {K : List LV → Prop} (h : RowB G v l) (k : K (l.map .b)) : bytL G v K := by
  rcases h with ⟨rfl, rfl⟩ | ⟨p, ver, st, rfl, hg⟩
  · exact k
  · simp only [bytL, hg]; exact ⟨by simp, by simp, by simpa using k⟩
/-! ### Fits -/
def fitE (a : List UInt64) (n : Int) : Int := if n < 0 ∨ 512 < n then 2 else if n < (toL (val a)).length then 3 else 0
def fitR (a : List UInt64) (n : Int) : List UInt64 := if fitE a n = 0 then toL (val a) ++ List.replicate (n.toNat - (toL (val a)).length) 0 else []
theorem fitR_length {a : List UInt64} {n : Int} (h : fitE a n = 0) : ((fitR a n).length : Int) = n ∧ 0 ≤ n ∧ n ≤ 512 := by
  unfold fitR; rw [if_pos h]
  unfold fitE at h
  by_cases h1 : n < 0 ∨ 512 < n
  · rw [if_pos h1] at h; simp at h
  · rw [if_neg h1] at h
    by_cases h2 : n < (toL (val a)).length
    · rw [if_pos h2] at h; simp at h
    · simp; omega
theorem fitE_own {a : List UInt64} (h : a.length ≤ 512) : fitE a a.length = 0 := by
  have := toL_length_val a
  unfold fitE
  rw [if_neg (by omega), if_neg (by omega)]
theorem fitR_own {a : List UInt64} (h : a.length ≤ 512) : fitR a a.length = a := by
  unfold fitR; rw [if_pos (fitE_own h)]; simpa using toL_fit
theorem repU (n : Nat) : repL [LV.u 0] n = (List.replicate n (0 : UInt64)).map .u := by
  induction n with
  | zero => rfl
  | succ n ih => simp [repL, ih, List.replicate_succ]

/-! ### Rows of naturals -/
def LN (l : List (List UInt64)) : LV := .lst (l.map LU) l.length 1
attribute [simp] LN
theorem nthL_n (l : List (List UInt64)) (i : Nat) (K : LV → Prop) : nthL (l.map LU) i K = (i < l.length ∧ K (LU (l.getD i []))) := nthL_map _ _ _ _ _
theorem dats_n (l : List (List UInt64)) : dats (l.map LU) = true := dats_map (fun x => by simp) l
theorem dats_nc {α : Type} (f : α → List UInt64) (l : List α) : dats (l.map (LU ∘ f)) = true := dats_map (fun x => by simp) l
attribute [simp] nthL_n dats_n dats_nc
attribute [simp ↓] nthL_n
theorem flat_n (l : List { l : List UInt64 // l.length ≤ maxLen }) : l.flatMap (fun x => [LV.lst (x.1.flatMap fun x => [LV.u x]) x.1.length 1]) = (l.map (·.1)).map LU := by
  induction l with
  | nil => rfl
  | cons x l ih =>
    rw [List.flatMap_cons, ih, flat_u]
    simp only [List.map_cons, List.cons_append, List.nil_append, LU]
theorem vals_ne {a b : List (List UInt64)} {i k : Nat} (h : (a.getD i []).getD k 0 ≠ (b.getD i []).getD k 0) : a.map val ≠ b.map val := by
  intro e
  refine h (val_getD ?_ k)
  have h1 : ∀ l : List (List UInt64), val (l.getD i []) = (l.map val).getD i 0 := by
    intro l
    by_cases hi : i < l.length
    · simp [hi]
    · have : l[i]? = none := by simp; omega
      simp [this, val]
  rw [h1, h1, e]
theorem vals_eq {a b : List (List UInt64)} (hl : a.length = b.length) (h : ∀ i, i < a.length → val (a.getD i []) = val (b.getD i [])) : a.map val = b.map val := by
  apply List.ext_getElem
  · simpa using hl
  · intro i h1 h2
    have h3 := h i (by simpa using h1)
    have h4 : i < a.length := by simpa using h1
    have h5 : i < b.length := by omega
    simpa [h4, h5] using h3
/-! ### Rows of single cells, whatever they are -/
def RowG (G : LHeap) (v : LV) (cs : List LV) : Prop := (v = .nilSl ∧ cs = []) ∨ ∃ p k st, v = .dy p k ∧ G[p]? = some (.dyn cs cs.length 1 k st)
theorem RowG.app {G : LHeap} {v : LV} {l : List LV} (h : RowG G v l) (x : LHeap) : RowG (G ++ x) v l := by
  rcases h with h | ⟨p, k, st, h1, h2⟩
  · exact .inl h
  · exact .inr ⟨p, k, st, h1, gapp h2 x⟩
theorem RowG.bor {G : LHeap} {v : LV} {l : List LV} (h : RowG G v l) (hd : dats l = true) : Go.Sv.bor G v (.lst l l.length 1) := by
  rcases h with ⟨rfl, rfl⟩ | ⟨p, k, st, rfl, hg⟩
  · exact .inr ⟨1, by simp⟩
  · exact ⟨_, _, _, st, rfl, hg, hd⟩
theorem RowG.cells {G : LHeap} {v : LV} {l : List LV} (h : RowG G v l) : v.cells = some [v] := by
  rcases h with ⟨rfl, rfl⟩ | ⟨p, k, st, rfl, h2⟩ <;> rfl
theorem appL_rowG {G : LHeap} {v : LV} {l new : List LV} {n : Nat} {K : LV → LHeap → Prop} (h : RowG G v l) (hn : n = new.length) (hl : l.length ≤ 1000000000)
    (k : ∀ v' G', RowG G' v' (l ++ new) → (∀ (q : Nat) (ob : LObj), G[q]? = some ob → (∀ k, v ≠ .dy q k) → G'[q]? = some ob ∧ ∀ k, v' ≠ .dy q k) → K v' G') : appL G 1 v n new K := by
  subst hn
  rcases h with ⟨rfl, rfl⟩ | ⟨p, ver, st, rfl, hg⟩
  · refine k _ _ (.inr ⟨G.length, 0, 0, rfl, by simp⟩) (fun q ob hq _ => ⟨gapp hq _, fun k e => ?_⟩)
    cases e
    have := (List.getElem?_eq_some_iff.1 hq).1
    omega
  · simp only [appL, hg]
    refine ⟨by simp, ⟨by simp, by simp⟩, by simpa using hl, k _ _ (.inr ⟨p, ver + 1, st + 1, rfl, by rw [gset hg]; simp⟩) (fun q ob hq hne => ?_)⟩
    have hqp : q ≠ p := fun e => hne ver (by rw [e])
    exact ⟨by rw [gset_ne hqp]; exact hq, fun k e => by cases e; exact hqp rfl⟩

/-! ### Naturals one behind the other -/
noncomputable def encRow : List (List UInt64) → List UInt8
  | [] => []
  | x :: l => bytesN (UInt64.ofNat x.length) 8 ++ (bytesUs x ++ encRow l)
theorem encRow_append : ∀ a b : List (List UInt64), encRow (a ++ b) = encRow a ++ encRow b
  | [], _ => rfl
  | x :: a, b => by simp [encRow, encRow_append a b]
theorem encRow_length {m : Nat} : ∀ l : List (List UInt64), (∀ x ∈ l, x.length ≤ m) → (encRow l).length ≤ (8 + 8 * m) * l.length
  | [], _ => by simp [encRow]
  | x :: l, h => by
    have ih := encRow_length l (fun y hy => h y (by simp [hy]))
    have h1 := h x (by simp)
    simp only [encRow, List.length_append, bytesN_length, bytesUs_length, List.length_cons, Nat.mul_add, Nat.mul_one]
    omega
theorem bytesUs_words (s : List UInt8) : ∀ n, s.length = 8 * n → ∀ i, i ≤ n → bytesUs (wordsN s i) = s.take (8 * i) := by
  intro n hn i
  induction i with
  | zero => intro _; simp [wordsN, bytesUs]
  | succ i ih =>
    intro hi
    rw [wordsN, bytesUs_append, ih (by omega), show 8 * (i + 1) = 8 * i + 8 from rfl, List.take_add]
    congr 1
    simp only [bytesUs, List.append_nil]
    exact bytes_limb (by simp; omega)
end Go.Sv
/- Words: products, bits, inverses; plain mathematics. -/
namespace Go.Sv

/-! ### Products -/
def mulHi (a b : UInt64) : UInt64 := UInt64.ofNat (a.toNat * b.toNat / 18446744073709551616)
theorem mulHi_val (a b : UInt64) : (mulHi a b).toNat * 18446744073709551616 + (a * b).toNat = a.toNat * b.toNat := by
  have h1 := a.toNat_lt
  have h2 := b.toNat_lt
  have h3 : a.toNat * b.toNat ≤ 18446744073709551615 * 18446744073709551615 := Nat.mul_le_mul (by omega) (by omega)
  rw [mulHi, UInt64.toNat_ofNat', UInt64.toNat_mul]
  omega
theorem and_low (x : UInt64) : (x &&& 4294967295).toNat = x.toNat % 4294967296 := by
  rw [UInt64.toNat_and]
  exact Nat.and_two_pow_sub_one_eq_mod x.toNat 32
theorem mul_hi (a b : UInt64) :
    addU (addU (mulU (shrU a 32) (shrU b 32)) (shrU (addU (mulU (shrU a 32) (andU b 4294967295)) (shrU (mulU (andU a 4294967295) (andU b 4294967295)) 32)) 32)) (shrU (addU (mulU (andU a 4294967295) (shrU b 32)) (andU (addU (mulU (shrU a 32) (andU b 4294967295)) (shrU (mulU (andU a 4294967295) (andU b 4294967295)) 32)) 4294967295)) 32) = mulHi a b := by
  simp only [addU_eq, mulU_eq, shrU_eq, andU_eq]
  apply UInt64.toNat_inj.1
  have h1 := a.toNat_lt
  have h2 := b.toNat_lt
  simp only [mulHi, UInt64.toNat_add, UInt64.toNat_mul, UInt64.toNat_ofNat', and_low, Nat.reducePow]
  generalize a.toNat = x at *
  generalize b.toNat = y at *
  have e1 : x = x / 4294967296 * 4294967296 + x % 4294967296 := by omega
  have e2 : y = y / 4294967296 * 4294967296 + y % 4294967296 := by omega
  have b1 : x / 4294967296 < 4294967296 := by omega
  have b2 : x % 4294967296 < 4294967296 := by omega
  have b3 : y / 4294967296 < 4294967296 := by omega
  have b4 : y % 4294967296 < 4294967296 := by omega
  have m1 : x / 4294967296 % 18446744073709551616 = x / 4294967296 := by omega
  have m2 : y / 4294967296 % 18446744073709551616 = y / 4294967296 := by omega
  rw [m1, m2]
  have e3 : x * y = (x / 4294967296 * (y / 4294967296)) * 18446744073709551616 + (x / 4294967296 * (y % 4294967296)) * 4294967296 + (x % 4294967296 * (y / 4294967296)) * 4294967296 + x % 4294967296 * (y % 4294967296) := by
    generalize x / 4294967296 = p at *
    generalize x % 4294967296 = q at *
    generalize y / 4294967296 = r at *
    generalize y % 4294967296 = s at *
    subst e1 e2
    grind
  rw [e3]
  generalize x / 4294967296 = p at *
  generalize x % 4294967296 = q at *
  generalize y / 4294967296 = r at *
  generalize y % 4294967296 = s at *
  have c1 : p * r ≤ 4294967295 * 4294967295 := Nat.mul_le_mul (by omega) (by omega)
  have c2 : p * s ≤ 4294967295 * 4294967295 := Nat.mul_le_mul (by omega) (by omega)
  have c3 : q * r ≤ 4294967295 * 4294967295 := Nat.mul_le_mul (by omega) (by omega)
  have c4 : q * s ≤ 4294967295 * 4294967295 := Nat.mul_le_mul (by omega) (by omega)
  generalize p * r = k1 at *
  generalize p * s = k2 at *
  generalize q * r = k3 at *
  generalize q * s = k4 at *
  clear e1 e2 m1 m2 b1 b2 b3 b4 h1 h2 e3
  omega

/-! ### Bits -/
def blen (n : Nat) : Nat := if n = 0 then 0 else n.log2 + 1
theorem blen_zero : blen 0 = 0 := rfl
theorem blen_half {n : Nat} (h : n ≠ 0) : blen n = blen (n / 2) + 1 := by
  unfold blen
  rw [if_neg h]
  by_cases h2 : n / 2 = 0
  · have : n = 1 := by omega
    subst this; decide
  · rw [if_neg h2, Nat.log2_def n, if_pos (by omega)]
theorem blen_lt (n : Nat) : n < 2 ^ blen n := by
  unfold blen
  by_cases h : n = 0
  · subst h; decide
  · rw [if_neg h]; exact (Nat.log2_lt h).1 (Nat.lt_succ_self _)
theorem blen_le {n k : Nat} (h : n < 2 ^ k) : blen n ≤ k := by
  unfold blen
  by_cases h0 : n = 0
  · subst h0; simp
  · rw [if_neg h0]; exact (Nat.log2_lt h0).2 h
theorem blen_one {n : Nat} (h : n < 2) : blen n = n := by
  match n, h with
  | 0, _ => rfl
  | 1, _ => rfl
theorem blen_shift {n : Nat} : ∀ s : Nat, n / 2 ^ s ≠ 0 → blen n = s + blen (n / 2 ^ s)
  | 0, _ => by simp
  | s + 1, h => by
    have h1 : n / 2 ^ s / 2 ≠ 0 := by rw [Nat.div_div_eq_div_mul, ← Nat.pow_succ]; exact h
    have h2 : n / 2 ^ s ≠ 0 := fun e => h1 (by rw [e])
    rw [blen_shift s h2, blen_half h2, Nat.div_div_eq_div_mul, show 2 ^ s * 2 = 2 ^ (s + 1) from rfl]
    omega

/-! ### Inverses -/
noncomputable def inv64 (n : UInt64) : UInt64 := by
  classical exact if h : ∃ x : UInt64, n * x = 1 then h.choose else 0
theorem inv64_eq {n x : UInt64} (h : n * x = 1) : inv64 n = x := by
  unfold inv64
  have hx : ∃ x : UInt64, n * x = 1 := ⟨x, h⟩
  rw [dif_pos hx]
  have h2 := hx.choose_spec
  generalize hx.choose = y at h2
  grind
theorem newton_step (n x : UInt64) : 1 - n * (x * (2 - n * x)) = (1 - n * x) * (1 - n * x) := by grind
theorem newton_zero (n x1 x2 x3 x4 x5 : UInt64) (hn : n % 2 = 1) (h1 : x1 = n * (2 - n * n)) (h2 : x2 = x1 * (2 - n * x1)) (h3 : x3 = x2 * (2 - n * x2)) (h4 : x4 = x3 * (2 - n * x3)) (h5 : x5 = x4 * (2 - n * x4)) : n * x5 = 1 := by
  have e1 := newton_step n n
  have e2 := newton_step n x1
  have e3 := newton_step n x2
  have e4 := newton_step n x3
  have e5 := newton_step n x4
  rw [← h1] at e1
  rw [← h2] at e2
  rw [← h3] at e3
  rw [← h4] at e4
  rw [← h5] at e5
  obtain ⟨k, hk⟩ : ∃ k : UInt64, n = 2 * k + 1 := by
    refine ⟨n / 2, ?_⟩
    apply UInt64.toNat_inj.1
    have hm := congrArg UInt64.toNat hn
    have hl := n.toNat_lt
    simp at hm
    simp
    omega
  have e0 : 1 - n * n = 4 * (0 - (k * k + k)) := by subst hk; grind
  generalize 0 - (k * k + k) = t at e0
  rw [e0] at e1
  rw [e1] at e2
  rw [e2] at e3
  rw [e3] at e4
  rw [e4] at e5
  have e6 : (1 : UInt64) - n * x5 = 0 := by
    rw [e5]
    have p : (4 : UInt64) * 4 * (4 * 4) * (4 * 4 * (4 * 4)) * (4 * 4 * (4 * 4) * (4 * 4 * (4 * 4))) * (4 * 4 * (4 * 4) * (4 * 4 * (4 * 4)) * (4 * 4 * (4 * 4) * (4 * 4 * (4 * 4)))) = 0 := by decide
    grind
  grind

def nwI (n : UInt64) : Nat → UInt64
  | 0 => n
  | k + 1 => nwI n k * (2 - n * nwI n k)
theorem nwI_5 {n : UInt64} (hn : n % 2 = 1) : n * nwI n 5 = 1 := newton_zero n (nwI n 1) (nwI n 2) (nwI n 3) (nwI n 4) (nwI n 5) hn (by simp only [nwI]) (by simp only [nwI]) (by simp only [nwI]) (by simp only [nwI]) (by simp only [nwI])
theorem nwI_succ (n : UInt64) (k : Nat) : mulU (nwI n k) (subU 2 (mulU n (nwI n k))) = nwI n (k + 1) := by simp only [mulU_eq, subU_eq, nwI]

/-! ### One bit -/
theorem shr_val (v : UInt64) (s : Nat) : (shrU v s).toNat = v.toNat / 2 ^ s := by
  have h := v.toNat_lt
  have : v.toNat / 2 ^ s ≤ v.toNat := Nat.div_le_self _ _
  rw [shrU_eq, UInt64.toNat_ofNat', Nat.mod_eq_of_lt (by omega)]
theorem and_one (v : UInt64) : (andU v 1).toNat = v.toNat % 2 := by
  rw [andU_eq, UInt64.toNat_and]
  exact Nat.and_two_pow_sub_one_eq_mod v.toNat 1
theorem bit_u (v : UInt64) (s : Nat) : andU (shrU v s) 1 = 1 ↔ v.toNat.testBit s = true := by
  rw [Nat.testBit_eq_decide_div_mod_eq, decide_eq_true_eq, ← shr_val, ← and_one]
  exact ⟨fun h => by rw [h]; rfl, fun h => UInt64.toNat_inj.1 (by rw [h]; rfl)⟩
theorem bit_u' (v : UInt64) (s : Nat) : andU (shrU v s) 1 = if v.toNat.testBit s = true then 1 else 0 := by
  apply UInt64.toNat_inj.1
  rw [and_one, shr_val, Nat.testBit_eq_decide_div_mod_eq]
  by_cases h : v.toNat / 2 ^ s % 2 = 1
  · simp [h]
  · have : v.toNat / 2 ^ s % 2 = 0 := by omega
    simp [this]
theorem one_shl {i : Nat} (h : i < 64) : (shlU 1 i).toNat = 2 ^ i := by
  rw [shlU_eq, UInt64.toNat_ofNat']
  have : 2 ^ i < 2 ^ 64 := Nat.pow_lt_pow_right (by omega) h
  simp
  omega
theorem or_bit {x : UInt64} {i : Nat} (hi : i < 64) (hx : x.toNat < 2 ^ i) : (orU x (shlU 1 i)).toNat = x.toNat + 2 ^ i := by
  rw [orU_eq, UInt64.toNat_or, one_shl hi, Nat.or_comm]
  have := Nat.two_pow_add_eq_or_of_lt hx 1
  simp at this
  omega

/-! ### Inverses, bit by bit -/
def InvAt (n : UInt64) (i : Nat) (x : UInt64) : Prop := x.toNat < 2 ^ i ∧ ∃ m, n.toNat * x.toNat = 1 % 2 ^ i + 2 ^ i * m
theorem inv_start (n : UInt64) : InvAt n 0 0 := ⟨by simp, 0, by simp⟩
theorem inv_step {n x : UInt64} {i : Nat} (hn : n.toNat % 2 = 1) (hi : i < 64) (h : InvAt n i x) : (andU (shrU (xorU (mulU n x) 1) i) 1 = 1 → InvAt n (i + 1) (orU x (shlU 1 i))) ∧ (¬ andU (shrU (xorU (mulU n x) 1) i) 1 = 1 → InvAt n (i + 1) x) := by
  obtain ⟨h1, m, h2⟩ := h
  rw [bit_u, xorU_eq, mulU_eq, UInt64.toNat_xor, UInt64.toNat_mul, Nat.testBit_xor]
  have hp : (2 : Nat) ^ (i + 1) = 2 ^ i * 2 := rfl
  by_cases h0 : i = 0
  · subst h0
    have hx : x = 0 := (u_zero_iff x).2 (by omega)
    subst hx
    refine ⟨fun _ => ⟨by rw [or_bit hi h1]; simp, n.toNat / 2, ?_⟩, fun h => by simp at h⟩
    rw [or_bit hi h1]
    simp
    omega
  · have e1 : (1 : UInt64).toNat.testBit i = false := by
      rw [Nat.testBit_eq_decide_div_mod_eq]
      have : 1 < 2 ^ i := Nat.one_lt_two_pow h0
      rw [show (1 : UInt64).toNat = 1 from rfl, Nat.div_eq_of_lt this]; rfl
    have hgt : 1 < 2 ^ i := Nat.one_lt_two_pow h0
    have e2 : (n.toNat * x.toNat % 2 ^ 64).testBit i = decide (m % 2 = 1) := by
      rw [Nat.testBit_mod_two_pow, Nat.testBit_eq_decide_div_mod_eq, h2, Nat.mod_eq_of_lt hgt, Nat.add_mul_div_left _ _ (by omega), Nat.div_eq_of_lt hgt]
      simp [hi]
    rw [e1, e2, Nat.mod_eq_of_lt hgt] at *
    have hgt2 : 1 < 2 ^ (i + 1) := by omega
    refine ⟨fun hb => ⟨by rw [or_bit hi h1]; omega, (m + n.toNat) / 2, ?_⟩, fun hb => ⟨by omega, m / 2, ?_⟩⟩
    · simp at hb
      rw [or_bit hi h1, Nat.mul_add, h2, Nat.mod_eq_of_lt hgt2, hp, Nat.mul_assoc, show 2 * ((m + n.toNat) / 2) = m + n.toNat by omega, Nat.mul_add, Nat.mul_comm n.toNat]
      omega
    · simp at hb
      rw [h2, Nat.mod_eq_of_lt hgt2, hp, Nat.mul_assoc, show 2 * (m / 2) = m by omega]
theorem inv_end {n x : UInt64} (h : InvAt n 64 x) : n * x = 1 := by
  obtain ⟨_, m, h2⟩ := h
  apply UInt64.toNat_inj.1
  rw [UInt64.toNat_mul, h2]
  simp
end Go.Sv
/- Naturals: comparing, products, quotients, limb by limb; plain mathematics. -/
namespace Go.Sv

/-! ### Limbs and bits -/
theorem limb_at : ∀ (a : List UInt64) (i : Nat), (a.getD i 0).toNat = val a / 2 ^ (64 * i) % 18446744073709551616
  | [], i => by simp [val]
  | x :: a, 0 => by
    have := x.toNat_lt
    simp [val]
  | x :: a, i + 1 => by
    have h := x.toNat_lt
    have ih := limb_at a i
    rw [pow64_succ, ← Nat.div_div_eq_div_mul, val, show (x.toNat + 18446744073709551616 * val a) / 18446744073709551616 = val a by omega, ← ih]
    simp
theorem bit_at (a : List UInt64) (i : Nat) : (a.getD (i / 64) 0).toNat.testBit (i % 64) = (val a).testBit i := by
  rw [limb_at, show (18446744073709551616 : Nat) = 2 ^ 64 from rfl, Nat.testBit_mod_two_pow, Nat.testBit_div_two_pow]
  have : i % 64 + 64 * (i / 64) = i := by omega
  simp [this]
  intro; omega
theorem val_set : ∀ (a : List UInt64) (i : Nat) (x : UInt64), i < a.length → val (a.set i x) + 2 ^ (64 * i) * (a.getD i 0).toNat = val a + 2 ^ (64 * i) * x.toNat
  | [], i, x, h => by simp at h
  | y :: a, 0, x, _ => by simp [val]; omega
  | y :: a, i + 1, x, h => by
    have ih := val_set a i x (by simpa using h)
    rw [pow64_succ]
    simp only [List.set_cons_succ, val, List.getD_cons_succ, Nat.mul_assoc]
    omega
theorem val_set0 {a : List UInt64} {i : Nat} {x : UInt64} (h : i < a.length) (h0 : a.getD i 0 = 0) : val (a.set i x) = val a + 2 ^ (64 * i) * x.toNat := by
  have := val_set a i x h
  rw [h0] at this
  simpa using this
theorem getD_set (a : List UInt64) (i j : Nat) (x : UInt64) (h : i ≠ j) : (a.set i x).getD j 0 = a.getD j 0 := by simp [List.getElem?_set_ne h]
theorem layU (a : List UInt64) (i : Nat) (x : UInt64) (h : i < a.length) : layLV (a.map .u) i [.u x] = (a.set i x).map .u := by
  unfold layLV
  rw [List.set_eq_take_append_cons_drop, if_pos h]
  simp

theorem blen_val {l : List UInt64} {n : Nat} (h : Trm l) (hl : l.length = n + 1) : blen (val l) = 64 * n + blen (l.getD n 0).toNat := by
  have h1 : val l = val (l.take n) + 2 ^ (64 * n) * (l.getD n 0).toNat := by rw [← val_take_succ (by omega), List.take_of_length_le (by omega)]
  have h2 := val_bound (a := l.take n) (n := n) (by simp; omega)
  have h3 : val l / 2 ^ (64 * n) = (l.getD n 0).toNat := by
    rw [h1, Nat.add_mul_div_left _ _ (Nat.two_pow_pos _), Nat.div_eq_of_lt h2, Nat.zero_add]
  have h4 : (l.getD n 0).toNat ≠ 0 := by
    rcases h with h | h
    · rw [h] at hl; simp at hl
    · intro e
      refine h ?_
      have : l.getLast?.getD 0 = l.getD n 0 := by
        rw [List.getLast?_eq_getElem?, hl]; simp
      rw [this]
      exact (u_zero_iff _).2 e
  rw [blen_shift (64 * n) (by rw [h3]; exact h4), h3]

/-! ### Comparing -/
def cmpN (a b : Nat) : Int := if a < b then -1 else if b < a then 1 else 0
theorem cmpN_self (a : Nat) : cmpN a a = 0 := by simp [cmpN]
theorem cmpN_step {v w k x y : Nat} (hv : v < k) (hw : w < k) : cmpN (v + k * x) (w + k * y) = if x < y then -1 else if y < x then 1 else cmpN v w := by
  have e : ∀ z, k * (z + 1) = k * z + k := fun z => by rw [Nat.mul_add, Nat.mul_one]
  by_cases h1 : x < y
  · have := Nat.mul_le_mul_left k (show x + 1 ≤ y from h1)
    rw [e] at this
    rw [if_pos h1, cmpN, if_pos (by omega)]
  · rw [if_neg h1]
    by_cases h2 : y < x
    · have := Nat.mul_le_mul_left k (show y + 1 ≤ x from h2)
      rw [e] at this
      rw [if_pos h2, cmpN, if_neg (by omega), if_pos (by omega)]
    · rw [if_neg h2]
      have : x = y := by omega
      subst this
      unfold cmpN
      by_cases h3 : v < w
      · rw [if_pos h3, if_pos (by omega)]
      · rw [if_neg h3, if_neg (by omega)]
        by_cases h4 : w < v
        · rw [if_pos h4, if_pos (by omega)]
        · rw [if_neg h4, if_neg (by omega)]
theorem val_take_lt (a : List UInt64) (i : Nat) : val (a.take i) < 2 ^ (64 * i) := val_bound (by simp; omega)
theorem cmp_next (a b : List UInt64) (i : Nat) : cmpN (val (a.take (i + 1))) (val (b.take (i + 1))) = if a.getD i 0 < b.getD i 0 then -1 else if b.getD i 0 < a.getD i 0 then 1 else cmpN (val (a.take i)) (val (b.take i)) := by
  rw [val_take_next, val_take_next, cmpN_step (val_take_lt a i) (val_take_lt b i)]
  simp only [UInt64.lt_iff_toNat_lt]
theorem cmpN_lt {a b : Nat} : cmpN a b < 0 ↔ a < b := by
  unfold cmpN
  split
  · simp; assumption
  · split <;> simp <;> omega
theorem cmpN_eq {a b : Nat} : cmpN a b = 0 ↔ a = b := by
  unfold cmpN
  split
  · simp; omega
  · split <;> simp <;> omega
theorem cmpN_ge {a b : Nat} : 0 ≤ cmpN a b ↔ b ≤ a := by
  have := @cmpN_lt a b
  omega

/-! ### Differences -/
theorem sub_step {a b : List UInt64} {i : Nat} {c : Bool} {out : List UInt64} (hl : out.length = i) (hv : val out + val (b.take i) = val (a.take i) + 2 ^ (64 * i) * c.toNat) :
    val (out ++ [(subC (a.getD i 0) (b.getD i 0) c).1]) + val (b.take (i + 1)) = val (a.take (i + 1)) + 2 ^ (64 * (i + 1)) * (subC (a.getD i 0) (b.getD i 0) c).2.toNat := by
  have hs := subC_val (a.getD i 0) (b.getD i 0) c
  rw [val_snoc, hl, val_take_next, val_take_next, pow64]
  generalize (subC (a.getD i 0) (b.getD i 0) c).1.toNat = s at *
  generalize (subC (a.getD i 0) (b.getD i 0) c).2.toNat = d at *
  generalize (a.getD i 0).toNat = x at *
  generalize (b.getD i 0).toNat = y at *
  generalize 2 ^ (64 * i) = k at *
  have e : k * (s + y + c.toNat) = k * (x + 18446744073709551616 * d) := by rw [hs]
  simp only [Nat.mul_add] at e
  have e2 : k * (18446744073709551616 * d) = k * 18446744073709551616 * d := by rw [Nat.mul_assoc]
  omega
theorem sub_end {a b out : List UInt64} {m : Nat} {c : Bool} (ha : a.length ≤ m) (hb : b.length ≤ m) (hl : out.length = m) (hv : val out + val (b.take m) = val (a.take m) + 2 ^ (64 * m) * c.toNat) :
    (c = true ↔ val a < val b) ∧ (c = false → val out = val a - val b) := by
  rw [val_take_big ha, val_take_big hb] at hv
  have h1 := val_bound (a := out) (n := m) (by omega)
  have h2 := val_bound hb
  cases c with
  | true => simp at hv ⊢; omega
  | false => simp at hv ⊢; omega

/-! ### Products -/
def mulC (o x y m : UInt64) : UInt64 × UInt64 := ((addC (addC o (x * y) false).1 m false).1, (addC (addC (mulHi x y) 0 (addC o (x * y) false).2).1 0 (addC (addC o (x * y) false).1 m false).2).1)
theorem mulC_val (o x y m : UInt64) : (mulC o x y m).1.toNat + 18446744073709551616 * (mulC o x y m).2.toNat = o.toNat + x.toNat * y.toNat + m.toNat := by
  have h1 := addC_val o (x * y) false
  have h2 := addC_val (addC o (x * y) false).1 m false
  have h3 := addC_val (mulHi x y) 0 (addC o (x * y) false).2
  have h4 := addC_val (addC (mulHi x y) 0 (addC o (x * y) false).2).1 0 (addC (addC o (x * y) false).1 m false).2
  have h5 := mulHi_val x y
  have l1 := o.toNat_lt
  have l2 := m.toNat_lt
  have l3 := x.toNat_lt
  have l4 := y.toNat_lt
  have l5 : x.toNat * y.toNat ≤ 18446744073709551615 * 18446744073709551615 := Nat.mul_le_mul (by omega) (by omega)
  have l6 := (addC (mulHi x y) 0 (addC o (x * y) false).2).1.toNat_lt
  have l7 := (addC (addC (mulHi x y) 0 (addC o (x * y) false).2).1 0 (addC (addC o (x * y) false).1 m false).2).1.toNat_lt
  unfold mulC
  dsimp only
  generalize (addC (addC (mulHi x y) 0 (addC o (x * y) false).2).1 0 (addC (addC o (x * y) false).1 m false).2) = r4 at *
  generalize (addC (mulHi x y) 0 (addC o (x * y) false).2) = r3 at *
  generalize (addC (addC o (x * y) false).1 m false) = r2 at *
  generalize (addC o (x * y) false) = r1 at *
  have z : (0 : UInt64).toNat = 0 := rfl
  rw [z] at h3 h4
  simp at h1 h2
  have b1 : r1.2.toNat ≤ 1 := Bool.toNat_le _
  have b2 : r2.2.toNat ≤ 1 := Bool.toNat_le _
  have b3 : r3.2.toNat ≤ 1 := Bool.toNat_le _
  have b4 : r4.2.toNat ≤ 1 := Bool.toNat_le _
  have l8 := (x * y).toNat_lt
  generalize (x * y).toNat = lo at *
  generalize (mulHi x y).toNat = hi at *
  generalize x.toNat * y.toNat = p at *
  omega
def MulInv (a b : List UInt64) (i k : Nat) (out : List UInt64) (more : UInt64) : Prop :=
  out.length = a.length + b.length ∧ val out + 2 ^ (64 * (i + k)) * more.toNat = val (a.take i) * val b + 2 ^ (64 * i) * ((a.getD i 0).toNat * val (b.take k)) ∧ ∀ j, i + b.length ≤ j → out.getD j 0 = 0
theorem mul_first (a b : List UInt64) : MulInv a b 0 0 (List.replicate (a.length + b.length) 0) 0 := by
  refine ⟨by simp, by simp [val, val_rep0], fun j hj => ?_⟩
  simp only [List.getD_eq_getElem?_getD, List.getElem?_replicate]
  split <;> rfl
theorem mul_inner {a b out : List UInt64} {i k : Nat} {more : UInt64} (hi : i < a.length) (hk : k < b.length) (h : MulInv a b i k out more) :
    MulInv a b i (k + 1) (out.set (i + k) (mulC (out.getD (i + k) 0) (a.getD i 0) (b.getD k 0) more).1) (mulC (out.getD (i + k) 0) (a.getD i 0) (b.getD k 0) more).2 := by
  obtain ⟨h1, h2, h3⟩ := h
  have hm := mulC_val (out.getD (i + k) 0) (a.getD i 0) (b.getD k 0) more
  have hs := val_set out (i + k) (mulC (out.getD (i + k) 0) (a.getD i 0) (b.getD k 0) more).1 (by omega)
  refine ⟨by simp [h1], ?_, fun j hj => by rw [getD_set _ _ _ _ (by omega)]; exact h3 j hj⟩
  rw [val_take_next b k, show i + (k + 1) = (i + k) + 1 by omega, pow64]
  generalize (mulC (out.getD (i + k) 0) (a.getD i 0) (b.getD k 0) more).2.toNat = m2 at *
  generalize hs1 : (mulC (out.getD (i + k) 0) (a.getD i 0) (b.getD k 0) more).1 = s1 at *
  generalize (out.getD (i + k) 0).toNat = o at *
  generalize (a.getD i 0).toNat = x at *
  generalize (b.getD k 0).toNat = y at *
  rw [show 64 * (i + k) = 64 * i + 64 * k by omega, Nat.pow_add] at *
  generalize 2 ^ (64 * i) = p at *
  generalize 2 ^ (64 * k) = q at *
  generalize s1.toNat = s at *
  generalize val (a.take i) * val b = X at *
  generalize val (b.take k) = Y at *
  generalize val (out.set (i + k) s1) = V at *
  generalize val out = U at *
  generalize more.toNat = m at *
  grind
theorem mul_outer {a b out : List UInt64} {i : Nat} {more : UInt64} (hi : i < a.length) (h : MulInv a b i b.length out more) : MulInv a b (i + 1) 0 (out.set (i + b.length) more) 0 := by
  obtain ⟨h1, h2, h3⟩ := h
  have hs := val_set0 (a := out) (i := i + b.length) (x := more) (by omega) (h3 _ (Nat.le_refl _))
  refine ⟨by simp [h1], ?_, fun j hj => by rw [getD_set _ _ _ _ (by omega)]; exact h3 j (by omega)⟩
  rw [hs, val_take_next a i]
  rw [List.take_length] at h2
  generalize (a.getD i 0).toNat = x at *
  simp [val, Nat.add_mul]
  rw [← Nat.mul_assoc] at h2
  rw [h2]
theorem mul_start {a b out : List UInt64} {i : Nat} (h : MulInv a b i 0 out 0) : val out = val (a.take i) * val b := by
  have := h.2.1
  simpa [val] using this
theorem mul_last {a b out : List UInt64} (h : MulInv a b a.length 0 out 0) : val out = val a * val b := by
  have := mul_start h
  rwa [List.take_length] at this

/-! ### Twice and a bit -/
def ShInv (l : List UInt64) (bit0 : UInt64) (i : Nat) (l' : List UInt64) (bit : UInt64) : Prop :=
  l'.length = l.length ∧ bit.toNat ≤ 1 ∧ (∀ j, i ≤ j → l'.getD j 0 = l.getD j 0) ∧ val (l'.take i) + 2 ^ (64 * i) * bit.toNat = 2 * val (l.take i) + bit0.toNat
theorem sh_start {l : List UInt64} {b : UInt64} (h : b.toNat ≤ 1) : ShInv l b 0 l b := ⟨rfl, h, fun _ _ => rfl, by simp [val]⟩
theorem sh_step {l l' : List UInt64} {b0 b : UInt64} {i : Nat} (hi : i < l.length) (h : ShInv l b0 i l' b) : ShInv l b0 (i + 1) (l'.set i (orU (shlU (l.getD i 0) 1) b)) (shrU (l.getD i 0) 63) := by
  obtain ⟨h1, h2, h3, h4⟩ := h
  have hx := (l.getD i 0).toNat_lt
  have e1 : (orU (shlU (l.getD i 0) 1) b).toNat = (l.getD i 0).toNat * 2 % 18446744073709551616 + b.toNat := by
    rw [orU_eq, UInt64.toNat_or, shlU_eq, UInt64.toNat_ofNat']
    have := Nat.two_pow_add_eq_or_of_lt (i := 1) (b := b.toNat) (by omega) ((l.getD i 0).toNat * 2 % 18446744073709551616 / 2)
    rw [show 2 ^ 1 * ((l.getD i 0).toNat * 2 % 18446744073709551616 / 2) = (l.getD i 0).toNat * 2 % 18446744073709551616 by omega] at this
    rw [this]
  have e2 : (shrU (l.getD i 0) 63).toNat = (l.getD i 0).toNat / 9223372036854775808 := by rw [shr_val]
  refine ⟨by simp [h1], by rw [e2]; omega, fun j hj => by rw [getD_set _ _ _ _ (by omega)]; exact h3 j (by omega), ?_⟩
  rw [take_succ_getD (by simp; omega), val_snoc, List.take_set_of_le (Nat.le_refl _), val_take_next l i, pow64]
  have e3 : ((l'.set i (orU (shlU (l.getD i 0) 1) b)).getD i 0) = orU (shlU (l.getD i 0) 1) b := by simp [List.getElem?_set_self (show i < l'.length by omega)]
  rw [e3, e1, e2, List.length_take, Nat.min_eq_left (by omega)]
  generalize (l.getD i 0).toNat = x at *
  have e4 : x * 2 % 18446744073709551616 + 18446744073709551616 * (x / 9223372036854775808) = 2 * x := by omega
  generalize x * 2 % 18446744073709551616 = u at *
  generalize x / 9223372036854775808 = w at *
  generalize 2 ^ (64 * i) = k at *
  have e5 : k * (u + 18446744073709551616 * w) = k * (2 * x) := by rw [e4]
  grind
theorem sh_end {l l' : List UInt64} {b0 b : UInt64} (h : ShInv l b0 l.length l' b) : (b = 0 → val l' = 2 * val l + b0.toNat) ∧ val (l' ++ [b]) = 2 * val l + b0.toNat := by
  obtain ⟨h1, h2, h3, h4⟩ := h
  rw [List.take_length, List.take_of_length_le (by omega)] at h4
  refine ⟨fun e => by subst e; simpa using h4, ?_⟩
  rw [val_snoc, h1]
  exact h4

/-! ### Quotients -/
def DivInv (A B N : Nat) (q : List UInt64) (r : Nat) : Prop := r = A / 2 ^ N % B ∧ val q = A / 2 ^ N / B * 2 ^ N
theorem div_step0 {A B N r : Nat} (hB : 0 < B) (hr : r = A / 2 ^ (N + 1) % B) : (2 * r + (A.testBit N).toNat < B → A / 2 ^ N % B = 2 * r + (A.testBit N).toNat ∧ A / 2 ^ N / B = 2 * (A / 2 ^ (N + 1) / B)) ∧
    (B ≤ 2 * r + (A.testBit N).toNat → A / 2 ^ N % B = 2 * r + (A.testBit N).toNat - B ∧ A / 2 ^ N / B = 2 * (A / 2 ^ (N + 1) / B) + 1) := by
  have h1 : A / 2 ^ (N + 1) = A / 2 ^ N / 2 := by rw [Nat.div_div_eq_div_mul]; rfl
  have h2 : (A.testBit N).toNat = A / 2 ^ N % 2 := by
    rw [Nat.testBit_eq_decide_div_mod_eq]
    by_cases h : A / 2 ^ N % 2 = 1
    · simp [h]
    · have : A / 2 ^ N % 2 = 0 := by omega
      simp [this]
  rw [h1] at hr ⊢
  rw [h2]
  generalize A / 2 ^ N = x at *
  have e1 := Nat.div_add_mod (x / 2) B
  have e2 : r < B := by rw [hr]; exact Nat.mod_lt _ hB
  rw [← hr] at e1
  have e3 : x = 2 * (x / 2) + x % 2 := by omega
  have e4 : x % 2 < 2 := by omega
  generalize x / 2 / B = c at *
  generalize x / 2 = y at *
  generalize x % 2 = d at *
  subst e1
  have key : ∀ z w, w < B → x = B * z + w → x % B = w ∧ x / B = z := fun z w hw e => by
    subst e
    exact ⟨by rw [Nat.mul_add_mod, Nat.mod_eq_of_lt hw], by rw [Nat.mul_add_div hB, Nat.div_eq_of_lt hw, Nat.add_zero]⟩
  refine ⟨fun h => key _ _ h ?_, fun h => key _ _ (by omega) ?_⟩
  · rw [e3, Nat.mul_left_comm]; grind
  · have : B * (2 * c + 1) = 2 * (B * c) + B := by grind
    omega
theorem setbit {q : List UInt64} {N : Nat} (hN : N / 64 < q.length) (h : 2 ^ (N + 1) ∣ val q) : val (q.set (N / 64) (orU (q.getD (N / 64) 0) (shlU 1 (N % 64)))) = val q + 2 ^ N := by
  have hs := val_set q (N / 64) (orU (q.getD (N / 64) 0) (shlU 1 (N % 64))) hN
  have hl := limb_at q (N / 64)
  have hlt : N % 64 < 64 := by omega
  have e1 : 2 ^ (N % 64 + 1) ∣ (q.getD (N / 64) 0).toNat := by
    obtain ⟨c, hc⟩ := h
    rw [hl, hc, show (2 : Nat) ^ (N + 1) = 2 ^ (64 * (N / 64)) * 2 ^ (N % 64 + 1) by rw [← Nat.pow_add]; congr 1; omega, Nat.mul_assoc, Nat.mul_div_cancel_left _ (Nat.two_pow_pos _)]
    refine (Nat.dvd_mod_iff ?_).2 (Nat.dvd_mul_right _ _)
    rw [show (18446744073709551616 : Nat) = 2 ^ 64 from rfl]
    exact Nat.pow_dvd_pow 2 (by omega)
  obtain ⟨c, hc⟩ := e1
  have e2 : (orU (q.getD (N / 64) 0) (shlU 1 (N % 64))).toNat = (q.getD (N / 64) 0).toNat + 2 ^ (N % 64) := by
    rw [orU_eq, UInt64.toNat_or, one_shl hlt]
    have := Nat.two_pow_add_eq_or_of_lt (i := N % 64 + 1) (b := 2 ^ (N % 64)) (Nat.pow_lt_pow_right (by omega) (by omega)) c
    rw [← hc] at this
    exact this.symm
  rw [e2, Nat.mul_add, ← Nat.pow_add, show 64 * (N / 64) + N % 64 = N by omega] at hs
  omega
theorem div_keep {A B N : Nat} {q : List UInt64} {r : Nat} (hB : 0 < B) (h : DivInv A B (N + 1) q r) (hlt : 2 * r + (A.testBit N).toNat < B) : DivInv A B N q (2 * r + (A.testBit N).toNat) := by
  obtain ⟨h1, h2⟩ := h
  obtain ⟨e1, e2⟩ := (div_step0 hB h1).1 hlt
  refine ⟨e1.symm, ?_⟩
  rw [e2, h2, Nat.pow_succ]
  grind
theorem div_take {A B N : Nat} {q : List UInt64} {r : Nat} (hB : 0 < B) (hN : N / 64 < q.length) (h : DivInv A B (N + 1) q r) (hge : B ≤ 2 * r + (A.testBit N).toNat) : DivInv A B N (q.set (N / 64) (orU (q.getD (N / 64) 0) (shlU 1 (N % 64)))) (2 * r + (A.testBit N).toNat - B) := by
  obtain ⟨h1, h2⟩ := h
  obtain ⟨e1, e2⟩ := (div_step0 hB h1).2 hge
  refine ⟨e1.symm, ?_⟩
  rw [setbit hN (by rw [h2]; exact Nat.dvd_mul_left _ _), e2, h2, Nat.pow_succ]
  grind
theorem div_start {A B : Nat} {n : Nat} : DivInv A B (blen A) (List.replicate n 0) 0 := by
  have h : A / 2 ^ blen A = 0 := Nat.div_eq_of_lt (blen_lt A)
  refine ⟨by rw [h]; simp, by rw [h, val_rep0]; simp⟩
theorem div_end {A B : Nat} {q : List UInt64} {r : Nat} (h : DivInv A B 0 q r) : val q = A / B ∧ r = A % B := by
  obtain ⟨h1, h2⟩ := h
  simp at h1 h2
  exact ⟨h2, h1⟩
end Go.Sv
/- Numbers modulo another one; plain mathematics. -/
namespace Go.Sv

def mE (n : Nat) : Int := if n = 0 then 2 else 0
def mR (n r : Nat) : List UInt64 := if n = 0 then [] else toL r
theorem mE_0 {n : Nat} (h : n = 0) : mE n = 2 := by simp [mE, h]
theorem mE_p {n : Nat} (h : n ≠ 0) : mE n = 0 := by simp [mE, h]
theorem mR_p {n r : Nat} (h : n ≠ 0) : mR n r = toL r := by simp [mR, h]
theorem mR_0 {n r : Nat} (h : n = 0) : mR n r = [] := by simp [mR, h]
def subM (a b n : Nat) : Nat := (a % n + n - b % n) % n
theorem modc (a n : Nat) : ∃ k : Int, ((a % n : Nat) : Int) = a + n * k := ⟨-(a / n : Nat), by
  have := Nat.div_add_mod a n
  have h : (a : Int) = n * (a / n : Nat) + (a % n : Nat) := by exact_mod_cast this.symm
  rw [h]
  generalize ((a % n : Nat) : Int) = x
  generalize ((a / n : Nat) : Int) = y
  grind⟩
theorem subM_cast {a b n : Nat} (hn : n ≠ 0) : ∃ k : Int, ((subM a b n : Nat) : Int) = a - b + n * k := by
  obtain ⟨k1, h1⟩ := modc (a % n + n - b % n) n
  obtain ⟨k2, h2⟩ := modc a n
  obtain ⟨k3, h3⟩ := modc b n
  have hb : b % n < n := Nat.mod_lt _ (by omega)
  have h4 : ((a % n + n - b % n : Nat) : Int) = (a % n : Nat) + n - (b % n : Nat) := by omega
  refine ⟨k1 + k2 - k3 + 1, ?_⟩
  unfold subM
  rw [h1, h4, h2, h3]
  grind
theorem eq_of_cast {a b n : Nat} (ha : a < n) (hb : b < n) {k : Int} (h : (a : Int) = b + n * k) : a = b := by
  have hk : k = 0 := by
    rcases Int.lt_trichotomy k 0 with h1 | h1 | h1
    · have : (n : Int) * k ≤ n * (-1) := Int.mul_le_mul_of_nonneg_left (by omega) (by omega)
      omega
    · exact h1
    · have : (n : Int) * 1 ≤ n * k := Int.mul_le_mul_of_nonneg_left (by omega) (by omega)
      omega
  subst hk
  omega
theorem subM_lt {a b n : Nat} (hn : n ≠ 0) : subM a b n < n := Nat.mod_lt _ (by omega)
theorem subM_mod_left {a b n : Nat} : subM (a % n) b n = subM a b n := by simp [subM]

/-! ### The greatest that divides both, and inverses -/
noncomputable def invN (a n : Nat) : Nat := by
  classical exact if h : ∃ x, x < n ∧ a * x % n = 1 % n then h.choose else 0
theorem invN_eq {a n x : Nat} (h1 : x < n) (h2 : a * x % n = 1 % n) : invN a n = x := by
  unfold invN
  have hx : ∃ x, x < n ∧ a * x % n = 1 % n := ⟨x, h1, h2⟩
  rw [dif_pos hx]
  obtain ⟨y1, y2⟩ := hx.choose_spec
  generalize hx.choose = y at *
  have e1 : y * (a * x) % n = y % n := by rw [Nat.mul_mod, h2, ← Nat.mul_mod, Nat.mul_one]
  have e2 : x * (a * y) % n = x % n := by rw [Nat.mul_mod, y2, ← Nat.mul_mod, Nat.mul_one]
  have e3 : y * (a * x) = x * (a * y) := by grind
  rw [e3, e2, Nat.mod_eq_of_lt h1, Nat.mod_eq_of_lt y1] at e1
  exact e1.symm
def EU (n x u v s t : Nat) : Prop := (∃ c : Int, (s : Int) * x - u = n * c) ∧ (∃ c : Int, (t : Int) * x - v = n * c) ∧ Nat.gcd u v = Nat.gcd x n
theorem EU_start (n x : Nat) : EU n x n x 0 1 := ⟨⟨-1, by grind⟩, ⟨0, by grind⟩, Nat.gcd_comm _ _⟩
theorem EU_step {n x u v s t : Nat} (hn : n ≠ 0) (h : EU n x u v s t) : EU n x v (u % v) t (subM s (u / v * t % n) n) := by
  obtain ⟨⟨c1, h1⟩, h2, h3⟩ := h
  refine ⟨h2, ?_, ?_⟩
  · obtain ⟨c2, h2⟩ := h2
    obtain ⟨k, hk⟩ := subM_cast (a := s) (b := u / v * t % n) hn
    obtain ⟨k2, hk2⟩ := modc (u / v * t) n
    have hu : (u : Int) = v * (u / v : Nat) + (u % v : Nat) := by exact_mod_cast (Nat.div_add_mod u v).symm
    have hm : ((u / v * t : Nat) : Int) = (u / v : Nat) * (t : Int) := Int.natCast_mul _ _
    rw [hm] at hk2
    refine ⟨c1 - (u / v : Nat) * c2 + k * x - k2 * x, ?_⟩
    rw [hk, hk2]
    generalize ((u / v : Nat) : Int) = q at *
    generalize ((u % v : Nat) : Int) = r at *
    grind
  · rw [← h3, Nat.gcd_comm u v, Nat.gcd_rec v u, Nat.gcd_comm]
theorem EU_end {n x u s t : Nat} (h : EU n x u 0 s t) : u = Nat.gcd x n := by
  have := h.2.2
  simpa using this
theorem EU_inv {n x s t : Nat} (hn : n ≠ 0) (h : EU n x 1 0 s t) : invN x n = s % n := by
  obtain ⟨⟨c, hc⟩, _, _⟩ := h
  refine invN_eq (Nat.mod_lt _ (by omega)) ?_
  obtain ⟨k1, h1⟩ := modc (x * (s % n)) n
  obtain ⟨k2, h2⟩ := modc s n
  obtain ⟨k3, h3⟩ := modc 1 n
  rw [Int.natCast_mul, h2] at h1
  refine eq_of_cast (Nat.mod_lt _ (by omega)) (Nat.mod_lt _ (by omega)) (k := c + x * k2 + k1 - k3) ?_
  rw [h1, h3]
  push_cast
  grind
theorem invN_spec {a n : Nat} (hn : n ≠ 0) (hg : Nat.gcd a n = 1) : invN a n < n ∧ a * invN a n % n = 1 % n := by
  have key : ∀ v u s t, EU n (a % n) u v s t → ∃ s' t', EU n (a % n) (Nat.gcd (a % n) n) 0 s' t' := by
    intro v
    induction v using Nat.strongRecOn with
    | _ v ih =>
      intro u s t h
      by_cases hv : v = 0
      · subst hv; rw [← EU_end h]; exact ⟨s, t, h⟩
      · exact ih (u % v) (Nat.mod_lt _ (by omega)) v t _ (EU_step hn h)
  obtain ⟨s, t, h⟩ := key _ _ _ _ (EU_start n (a % n))
  rw [← Nat.gcd_rec, Nat.gcd_comm, hg] at h
  have e := EU_inv hn h
  have e2 : invN a n = s % n := by
    refine invN_eq (Nat.mod_lt _ (by omega)) ?_
    obtain ⟨⟨c, hc⟩, _, _⟩ := h
    obtain ⟨k0, h0⟩ := modc a n
    obtain ⟨k1, h1⟩ := modc (a * (s % n)) n
    obtain ⟨k2, h2⟩ := modc s n
    obtain ⟨k3, h3⟩ := modc 1 n
    rw [Int.natCast_mul, h2] at h1
    rw [h0] at hc
    refine eq_of_cast (Nat.mod_lt _ (by omega)) (Nat.mod_lt _ (by omega)) (k := c - s * k0 + a * k2 + k1 - k3) ?_
    rw [h1, h3]
    push_cast at hc ⊢
    grind
  refine ⟨by rw [e2]; exact Nat.mod_lt _ (by omega), ?_⟩
  rw [e2]
  obtain ⟨⟨c, hc⟩, _, _⟩ := h
  obtain ⟨k0, h0⟩ := modc a n
  obtain ⟨k1, h1⟩ := modc (a * (s % n)) n
  obtain ⟨k2, h2⟩ := modc s n
  obtain ⟨k3, h3⟩ := modc 1 n
  rw [Int.natCast_mul, h2] at h1
  rw [h0] at hc
  refine eq_of_cast (Nat.mod_lt _ (by omega)) (Nat.mod_lt _ (by omega)) (k := c - s * k0 + a * k2 + k1 - k3) ?_
  rw [h1, h3]
  push_cast at hc ⊢
  grind
theorem invN_mod {a n : Nat} (hn : n ≠ 0) (hg : Nat.gcd a n = 1) : invN (a % n) n = invN a n := by
  obtain ⟨h1, h2⟩ := invN_spec hn hg
  exact invN_eq h1 (by rw [← h2]; simp [Nat.mul_mod])
/-- What the answer is when it is asked for an inverse: its error, itself. -/
noncomputable def ivE (a n : Nat) : Int := if n = 0 then 2 else if Nat.gcd a n = 1 then 0 else 5
noncomputable def ivR (a n : Nat) : List UInt64 := if n ≠ 0 ∧ Nat.gcd a n = 1 then toL (invN a n) else []

/-! ### Powers by bits -/
theorem pow_bit (e n : Nat) : e / 2 ^ n = 2 * (e / 2 ^ (n + 1)) + (e.testBit n).toNat := by
  rw [Nat.testBit_eq_decide_div_mod_eq, Nat.pow_succ, ← Nat.div_div_eq_div_mul]
  by_cases h : e / 2 ^ n % 2 = 1
  · simp [h]; omega
  · simp [h]; omega
theorem pow_sq {a m e N r : Nat} (h : r = a ^ (e / 2 ^ (N + 1)) % m) (hb : e.testBit N = false) : r * r % m = a ^ (e / 2 ^ N) % m := by
  rw [pow_bit e N, hb, h, ← Nat.mul_mod, ← Nat.pow_add]
  simp [Nat.two_mul]
theorem pow_sqm {a m e N r : Nat} (h : r = a ^ (e / 2 ^ (N + 1)) % m) (hb : e.testBit N = true) : (r * r % m) * a % m = a ^ (e / 2 ^ N) % m := by
  rw [pow_bit e N, hb, h, ← Nat.mul_mod, ← Nat.pow_add]
  rw [Nat.mul_mod, Nat.mod_mod, ← Nat.mul_mod, ← Nat.pow_succ]
  simp [Nat.two_mul]
theorem pow_first (a m e : Nat) : 1 % m = a ^ (e / 2 ^ blen e) % m := by
  rw [Nat.div_eq_of_lt (blen_lt e), Nat.pow_zero]
theorem toL_len_lt {n : Nat} {b : List UInt64} (h : n < val b) : (toL n).length ≤ b.length := toL_length_le (Nat.lt_trans h (val_lt b))
theorem toL_len_le {n : Nat} {b : List UInt64} (h : n ≤ val b) : (toL n).length ≤ b.length := toL_length_le (Nat.lt_of_le_of_lt h (val_lt b))

/-! ### Odd ones, the radix -/
def oddL (n : List UInt64) : Bool := decide (n.getD 0 0 % 2 = 1)
theorem oddL_val (n : List UInt64) : oddL n = (val n).testBit 0 := by
  have h := limb_at n 0
  have e : (n.getD 0 0 % 2 = 1) ↔ (n.getD 0 0).toNat % 2 = 1 := by
    constructor
    · intro h; simpa using congrArg UInt64.toNat h
    · intro h; apply UInt64.toNat_inj.1; simpa using h
  unfold oddL
  rw [Nat.testBit_zero]
  simp only [e, h]
  simp
theorem oddL_odd {n : List UInt64} (h : oddL n = true) : val n % 2 = 1 := by
  rw [oddL_val, Nat.testBit_zero] at h
  simpa using h
theorem oddL_ne {n : List UInt64} (h : oddL n = true) : val n ≠ 0 := by
  have := oddL_odd h
  omega
theorem oddL_len {n : List UInt64} (h : oddL n = true) : 0 < n.length := by
  cases n with
  | nil => simp [oddL] at h
  | cons x l => simp
def conE (n : List UInt64) : Int := if oddL n = true then 0 else 2
noncomputable def conR (n : List UInt64) : UInt64 := if oddL n = true then 0 - inv64 (n.getD 0 0) else 0
def rdE (l : Int) (n : Nat) : Int := if l < 0 ∨ 512 < l then 2 else mE n
def rdR (l : Int) (n : Nat) : List UInt64 := if l < 0 ∨ 512 < l then [] else mR n (2 ^ (64 * l.toNat) % n)
def reE (n : List UInt64) (l : Int) : Int := if oddL n = true ∧ 0 ≤ l ∧ l ≤ 512 then 0 else 2
noncomputable def reR (t n : List UInt64) (l : Int) : List UInt64 := if oddL n = true ∧ 0 ≤ l ∧ l ≤ 512 then toL (val t * invN (2 ^ (64 * l.toNat) % val n) (val n) % val n) else []
theorem radix_coprime {n : Nat} (h : n % 2 = 1) (k : Nat) : Nat.gcd (2 ^ k) n = 1 := by
  have h2 : Nat.Coprime 2 n := by
    unfold Nat.Coprime
    rw [Nat.gcd_rec, h]
    decide
  exact h2.pow_left k
theorem radix_coprime' {n : Nat} (h : n % 2 = 1) (k : Nat) : Nat.gcd (2 ^ k % n) n = 1 := by
  rw [← Nat.gcd_rec, Nat.gcd_comm]; exact radix_coprime h k
theorem val_radix (l : Nat) : val (List.replicate l 0 ++ [1]) = 2 ^ (64 * l) := by
  rw [val_append, val_rep0, val_one]; simp
theorem gcd_mod (a n : Nat) : Nat.gcd (a % n) n = Nat.gcd a n := by rw [← Nat.gcd_rec, Nat.gcd_comm]
theorem ivE_mod {a n : Nat} : ivE (a % n) n = ivE a n := by
  have e : (Nat.gcd (a % n) n = 1) = (Nat.gcd a n = 1) := by rw [gcd_mod]
  unfold ivE
  simp only [e]
theorem ivR_mod {a n : Nat} : ivR (a % n) n = ivR a n := by
  have e : (Nat.gcd (a % n) n = 1) = (Nat.gcd a n = 1) := by rw [gcd_mod]
  unfold ivR
  simp only [e]
  by_cases h : n ≠ 0 ∧ Nat.gcd a n = 1
  · rw [if_pos h, if_pos h, invN_mod h.1 h.2]
  · rw [if_neg h, if_neg h]
end Go.Sv
/- Powers modulo a prime come back; plain mathematics. -/
namespace Go.Sv

def ch : Nat → Nat → Nat
  | _, 0 => 1
  | 0, _ + 1 => 0
  | n + 1, k + 1 => ch n k + ch n (k + 1)
theorem ch_big : ∀ {n k : Nat}, n < k → ch n k = 0
  | 0, k + 1, _ => rfl
  | n + 1, k + 1, h => by rw [ch, ch_big (by omega), ch_big (by omega)]
theorem ch_self : ∀ n, ch n n = 1
  | 0 => rfl
  | n + 1 => by rw [ch, ch_self n, ch_big (by omega)]
theorem ch_zero : ∀ n, ch n 0 = 1
  | 0 => rfl
  | _ + 1 => rfl
theorem ch_mul : ∀ n k, (k + 1) * ch (n + 1) (k + 1) = (n + 1) * ch n k
  | 0, 0 => rfl
  | 0, k + 1 => by simp [ch]
  | n + 1, 0 => by
    have h := ch_mul n 0
    have e : ch (n + 1 + 1) (0 + 1) = ch (n + 1) 0 + ch (n + 1) (0 + 1) := rfl
    rw [e, ch_zero]
    rw [ch_zero] at h
    omega
  | n + 1, k + 1 => by
    have h1 := ch_mul n k
    have h2 := ch_mul n (k + 1)
    rw [ch]
    have h3 : ch (n + 1) (k + 1) = ch n k + ch n (k + 1) := rfl
    grind
def sm (f : Nat → Nat) : Nat → Nat
  | 0 => 0
  | n + 1 => sm f n + f n
theorem sm_add (f g : Nat → Nat) : ∀ n, sm (fun k => f k + g k) n = sm f n + sm g n
  | 0 => rfl
  | n + 1 => by simp only [sm]; rw [sm_add f g n]; omega
theorem sm_mul (f : Nat → Nat) (c : Nat) : ∀ n, sm (fun k => c * f k) n = c * sm f n
  | 0 => rfl
  | n + 1 => by simp only [sm]; rw [sm_mul f c n, Nat.mul_add]
theorem sm_shift (f : Nat → Nat) : ∀ n, sm f (n + 1) = f 0 + sm (fun k => f (k + 1)) n
  | 0 => by simp [sm]
  | n + 1 => by rw [sm, sm_shift f n, sm]; omega
theorem sm_congr {f g : Nat → Nat} (h : ∀ k, f k = g k) (n : Nat) : sm f n = sm g n := by rw [show f = g from funext h]
theorem binom (a : Nat) : ∀ n, sm (fun k => ch n k * a ^ k) (n + 1) = (a + 1) ^ n
  | 0 => by simp [sm, ch]
  | n + 1 => by
    have ih := binom a n
    have e2 : sm (fun k => ch n (k + 1) * a ^ (k + 1)) (n + 1) + 1 = (a + 1) ^ n := by
      have h := sm_shift (fun k => ch n k * a ^ k) (n + 1)
      rw [sm] at h
      rw [ch_big (Nat.lt_succ_self n)] at h
      rw [ih] at h
      simp [ch_zero] at h
      omega
    rw [sm_shift]
    rw [sm_congr (g := fun k => a * (ch n k * a ^ k) + ch n (k + 1) * a ^ (k + 1)) (fun k => by simp only [ch]; grind), sm_add, sm_mul, ih, Nat.pow_succ]
    simp only [ch, Nat.pow_zero]
    grind
def Prm (p : Nat) : Prop := 2 ≤ p ∧ ∀ d, d ∣ p → d = 1 ∨ d = p
theorem Prm.coprime {p k : Nat} (hp : Prm p) (h0 : 0 < k) (hk : k < p) : Nat.Coprime p k := by
  have h1 := hp.2 (Nat.gcd p k) (Nat.gcd_dvd_left _ _)
  rcases h1 with h | h
  · exact h
  · have := Nat.le_of_dvd h0 (h ▸ Nat.gcd_dvd_right p k)
    omega
theorem Prm.ch {p k : Nat} (hp : Prm p) (h0 : 0 < k) (hk : k < p) : p ∣ ch p k := by
  obtain ⟨q, rfl⟩ : ∃ q, p = q + 1 := ⟨p - 1, by have := hp.1; omega⟩
  obtain ⟨j, rfl⟩ : ∃ j, k = j + 1 := ⟨k - 1, by omega⟩
  have h := ch_mul q j
  exact (hp.coprime h0 hk).dvd_of_dvd_mul_left ⟨_, h⟩
theorem sm_dvd {p : Nat} {f : Nat → Nat} : ∀ n, (∀ k, k < n → p ∣ f k) → p ∣ sm f n
  | 0, _ => Nat.dvd_zero _
  | n + 1, h => by rw [sm]; exact Nat.dvd_add (sm_dvd n fun k hk => h k (by omega)) (h n (by omega))
theorem fermat_step {p : Nat} (hp : Prm p) (a : Nat) : ∃ c, (a + 1) ^ p = a ^ p + 1 + p * c := by
  obtain ⟨q, rfl⟩ : ∃ q, p = q + 1 := ⟨p - 1, by have := hp.1; omega⟩
  have h := binom a (q + 1)
  rw [sm, sm_shift] at h
  obtain ⟨c, hc⟩ : (q + 1) ∣ sm (fun k => Sv.ch (q + 1) (k + 1) * a ^ (k + 1)) q := sm_dvd q fun k hk => Nat.dvd_mul_right_of_dvd (hp.ch (by omega) (by omega)) _
  rw [hc, ch_self, ch_zero] at h
  exact ⟨c, by simp at h; omega⟩
theorem fermat {p : Nat} (hp : Prm p) : ∀ a, a ^ p % p = a % p
  | 0 => by
    have := hp.1
    rw [Nat.zero_pow (by omega)]
  | a + 1 => by
    obtain ⟨c, hc⟩ := fermat_step hp a
    rw [hc, Nat.add_mul_mod_self_left, Nat.add_mod, fermat hp a, ← Nat.add_mod]

/-! ### Which numbers are prime -/
def allN (f : Nat → Bool) : Nat → Bool
  | 0 => true
  | n + 1 => f n && allN f n
theorem allN_ok {f : Nat → Bool} : ∀ {n : Nat}, allN f n = true → ∀ k, k < n → f k = true
  | 0, _, k, h => by omega
  | n + 1, e, k, h => by
    simp only [allN, Bool.and_eq_true] at e
    by_cases hk : k = n
    · subst hk; exact e.1
    · exact allN_ok e.2 k (by omega)
def noDiv (p m : Nat) : Bool := allN (fun i => allN (fun j => Nat.blt (256 * i + j) 2 || !(Nat.beq (p % (256 * i + j)) 0)) 256) m
theorem noDiv_ok {p m d : Nat} (h : noDiv p m = true) (h2 : 2 ≤ d) (hd : d < 256 * m) : ¬ d ∣ p := by
  intro hdv
  have h1 := allN_ok h (d / 256) (by omega)
  have h3 := allN_ok h1 (d % 256) (by omega)
  rw [show 256 * (d / 256) + d % 256 = d by omega] at h3
  simp only [Bool.or_eq_true, Bool.not_eq_true'] at h3
  rcases h3 with h3 | h3
  · have := Nat.le_of_ble_eq_true h3; omega
  · rw [Nat.mod_eq_zero_of_dvd hdv] at h3; cases h3
theorem prm_of {p m : Nat} (h2 : 2 ≤ p) (hm : p < (256 * m) * (256 * m)) (hlt : ∀ d, 2 ≤ d → d < 256 * m → d < p → ¬ d ∣ p) : Prm p := by
  refine ⟨h2, fun d hd => ?_⟩
  by_cases h1 : d = 1
  · exact .inl h1
  by_cases hp : d = p
  · exact .inr hp
  exfalso
  obtain ⟨c, hc⟩ := hd
  have hd0 : d ≠ 0 := fun e => by subst e; omega
  have hc0 : c ≠ 0 := fun e => by subst e; omega
  have hc1 : c ≠ 1 := fun e => by subst e; omega
  have hdp : d < p := by
    have : d * 2 ≤ d * c := Nat.mul_le_mul_left d (by omega)
    omega
  have hcp : c < p := by
    have : 2 * c ≤ d * c := Nat.mul_le_mul_right c (by omega)
    omega
  by_cases hdm : d < 256 * m
  · exact hlt d (by omega) hdm hdp ⟨c, hc⟩
  · by_cases hcm : c < 256 * m
    · exact hlt c (by omega) hcm hcp ⟨d, by rw [hc, Nat.mul_comm]⟩
    · have : (256 * m) * (256 * m) ≤ d * c := Nat.mul_le_mul (by omega) (by omega)
      omega
theorem prm_small {p : Nat} (h2 : 2 ≤ p) (hp : p ≤ 256) (h : (List.range p).all (fun d => decide (d < 2) || !(decide (p % d = 0))) = true) : Prm p := by
  refine prm_of (m := 1) h2 (by omega) (fun d hd _ hlt hdv => ?_)
  have := List.all_eq_true.1 h d (List.mem_range.2 hlt)
  simp [Nat.mod_eq_zero_of_dvd hdv] at this
  omega
theorem prm_2 : Prm 2 := prm_small (by decide) (by decide) (by decide)
theorem prm_3 : Prm 3 := prm_small (by decide) (by decide) (by decide)
theorem prm_5 : Prm 5 := prm_small (by decide) (by decide) (by decide)
theorem prm_7 : Prm 7 := prm_small (by decide) (by decide) (by decide)
theorem prm_251 : Prm 251 := prm_small (by decide) (by decide) (by decide +kernel)
theorem nd_65537 : noDiv 65537 2 = true := by kernel_rfl
theorem nd_big : noDiv 4294967291 256 = true := by kernel_rfl
theorem prm_65537 : Prm 65537 := prm_of (m := 2) (by decide) (by decide) (fun d h1 h2 _ => noDiv_ok nd_65537 h1 h2)
theorem prm_big : Prm 4294967291 := prm_of (m := 256) (by decide) (by decide) (fun d h1 h2 _ => noDiv_ok nd_big h1 h2)
end Go.Sv
/- Instructions: the tables; plain mathematics. -/
namespace Go.Sv

/-- Of each operation: its name, what it has, which flags it takes, which it makes. -/
def FT : List (List UInt8 × Nat × Nat × Nat) := [
  ([], 0, 0, 0),
  ([109, 111, 118], 131, 0, 0),
  ([109, 111, 118], 161, 0, 0),
  ([109, 111, 118], 137, 0, 0),
  ([109, 111, 118], 10, 0, 0),
  ([108, 101, 97], 137, 0, 0),
  ([97, 100, 100], 387, 0, 7),
  ([97, 100, 99], 387, 1, 7),
  ([115, 117, 98], 387, 0, 7),
  ([115, 98, 98], 387, 1, 7),
  ([97, 110, 100], 387, 0, 7),
  ([111, 114], 387, 0, 7),
  ([120, 111, 114], 387, 0, 7),
  ([99, 109, 112], 259, 0, 7),
  ([116, 101, 115, 116], 259, 0, 7),
  ([97, 100, 100], 401, 0, 7),
  ([97, 110, 100], 401, 0, 7),
  ([115, 117, 98], 401, 0, 7),
  ([99, 109, 112], 273, 0, 7),
  ([109, 117, 108, 120], 135, 0, 0),
  ([97, 100, 99, 120], 387, 1, 1),
  ([97, 100, 111, 120], 387, 2, 2),
  ([110, 101, 103], 385, 0, 7),
  ([110, 111, 116], 385, 0, 0),
  ([115, 104, 108], 449, 0, 5),
  ([115, 104, 114], 449, 0, 5),
  ([99, 109, 111, 118, 99], 387, 1, 0),
  ([99, 109, 111, 118, 110, 122], 387, 4, 0),
  ([112, 117, 115, 104], 514, 0, 0),
  ([112, 111, 112], 641, 0, 0),
  ([106, 109, 112], 16, 0, 0),
  ([106, 110, 122], 16, 4, 0),
  ([106, 99], 16, 1, 0),
  ([114, 101, 116], 512, 0, 0)]
/-- Of each operation: what it has, as letters. -/
def FS : List (List UInt8) := [[], [68, 83], [68, 73], [68, 77], [83, 77], [68, 77], [68, 83], [68, 83], [68, 83], [68, 83], [68, 83], [68, 83], [68, 83], [68, 83], [68, 83], [68, 105], [68, 105], [68, 105], [68, 105], [68, 83, 84], [68, 83], [68, 83], [68], [68], [68, 98], [68, 98], [68, 83], [68, 83], [83], [68], [105], [105], [105], [45]]
/-- The registers' names. -/
def RG : List (List UInt8) := [[114, 97, 120], [114, 99, 120], [114, 100, 120], [114, 98, 120], [114, 115, 112], [114, 98, 112], [114, 115, 105], [114, 100, 105], [114, 56], [114, 57], [114, 49, 48], [114, 49, 49], [114, 49, 50], [114, 49, 51], [114, 49, 52], [114, 49, 53]]

/-- A number as an index; none is the last one and beyond. -/
def ix (n : Int) (m : Nat) : Nat := if 0 ≤ n ∧ n < m then n.toNat else m
def ftOf (op : Int) : List UInt8 × Nat × Nat × Nat := FT.getD (ix op 34) ([], 0, 0, 0)
def fsOf (op : Int) : List UInt8 := FS.getD (ix op 34) []
def rgOf (r : Int) : List UInt8 := RG.getD (ix r 16) []
def ftC (e : List UInt8 × Nat × Nat × Nat) : List LV := [.str e.1, .i e.2.1, .i e.2.2.1, .i e.2.2.2]
theorem ix_in {n : Int} {m : Nat} (h0 : 0 ≤ n) (h1 : n < m) : ix n m = n.toNat := if_pos ⟨h0, h1⟩
theorem ix_out {n : Int} {m : Nat} (h : ¬ (0 ≤ n ∧ n < m)) : ix n m = m := if_neg h
abbrev OpForm := List UInt8 × Nat × Nat × Nat
/-- Has an operation's form something? -/
def hasB (e : OpForm) (w : Nat) : Bool := decide (e.2.1 &&& w ≠ 0)
theorem ft_small (op : Int) : (ftOf op).2.1 < 1000000 := by
  unfold ftOf
  generalize ix op 34 = n
  by_cases h : n < FT.length
  · have key : FT.all (fun e => decide (e.2.1 < 1000000)) = true := by decide +kernel
    have := List.all_eq_true.1 key _ (List.getElem_mem h)
    rw [List.getD_eq_getElem?_getD, List.getElem?_eq_getElem h]
    simpa using this
  · rw [List.getD_eq_getElem?_getD, List.getElem?_eq_none (by omega)]
    simp
/-- An instruction. -/
structure In where
  op : Int
  d : Int
  s : Int
  t : Int
  base : Int
  index : Int
  scale : Int
  disp : Int
  imm : Int
def In.c (x : In) : List LV := [.i x.op, .i x.d, .i x.s, .i x.t, .i x.base, .i x.index, .i x.scale, .i x.disp, .i x.imm]
def regB (r : Int) : Bool := decide (0 ≤ r ∧ r ≤ 15)
def smallB (n : Int) : Bool := decide (-2147483648 ≤ n ∧ n < 2147483648)
def placeB (b x s d : Int) : Bool := regB b && smallB d && (if x = -1 then decide (s = 1) else regB x && decide (x ≠ 4) && (decide (s = 1) || decide (s = 2) || decide (s = 4) || decide (s = 8)))
def numB (e : OpForm) (n : Int) : Bool := if hasB e 32 = true then true else if hasB e 16 = true then smallB n else if hasB e 64 = true then decide (1 ≤ n) && decide (n ≤ 63) else decide (n = 0)
def partB (e : OpForm) (w : Nat) (r : Int) : Bool := if hasB e w = true then regB r else decide (r = 0)
def memB (e : OpForm) (b x s d : Int) : Bool := if hasB e 8 = true then placeB b x s d else decide (b = 0) && (decide (x = 0) && (decide (s = 0) && decide (d = 0)))
def checkB (x : In) : Bool :=
  let e := ftOf x.op
  decide (e.1 ≠ []) && numB e x.imm && (partB e 1 x.d && (partB e 2 x.s && partB e 4 x.t)) && (memB e x.base x.index x.scale x.disp && !(hasB e 4 && decide (x.d = x.s)))
/-- What structs are compared by. -/
noncomputable def resG : List (Option Bool) → Option Bool
  | [] => some true
  | o :: l => match o with
    | some true => resG l
    | some false => some false
    | none => none
theorem resG_some : ∀ l : List Bool, resG (l.map some) = some (l.all id)
  | [] => rfl
  | true :: l => by rw [List.map_cons, resG, resG_some l]; rfl
  | false :: l => rfl
end Go.Sv
/- Lengths: sums of terms; plain mathematics. -/
namespace Go.Sv

/-- A term: a name, how many times. -/
abbrev Tm := List UInt8 × Int
def tmC (l : List Tm) : List LV := l.flatMap fun t => [.str t.1, .i t.2]
theorem tmC_length : ∀ l : List Tm, (tmC l).length = l.length * 2
  | [] => rfl
  | _ :: l => by simp only [tmC, List.flatMap_cons, List.length_append, List.length_cons, List.length_nil]; rw [← tmC, tmC_length l]; omega
theorem tmC_cons (t : Tm) (l : List Tm) : tmC (t :: l) = .str t.1 :: .i t.2 :: tmC l := rfl
theorem tmC_app (a b : List Tm) : tmC (a ++ b) = tmC a ++ tmC b := by simp [tmC]
theorem tm_at0 : ∀ (l : List Tm) (i : Nat), (tmC l)[i * 2]? = l[i]?.map fun t => .str t.1
  | [], i => by simp [tmC]
  | t :: l, 0 => by simp [tmC_cons]
  | t :: l, i + 1 => by rw [tmC_cons, show (i + 1) * 2 = i * 2 + 1 + 1 by omega, List.getElem?_cons_succ, List.getElem?_cons_succ, tm_at0 l i]; simp
theorem tm_at1 : ∀ (l : List Tm) (i : Nat), (tmC l)[i * 2 + 1]? = l[i]?.map fun t => .i t.2
  | [], i => by simp [tmC]
  | t :: l, 0 => by simp [tmC_cons]
  | t :: l, i + 1 => by rw [tmC_cons, show (i + 1) * 2 + 1 = i * 2 + 1 + 1 + 1 by omega, List.getElem?_cons_succ, List.getElem?_cons_succ, tm_at1 l i]; simp
theorem tm_two : ∀ (l : List Tm) (i : Nat) (t : Tm), l[i]? = some t → ((tmC l).drop (i * 2)).take 2 = [.str t.1, .i t.2]
  | [], i, t, h => by simp at h
  | u :: l, 0, t, h => by simp at h; subst h; simp [tmC_cons]
  | u :: l, i + 1, t, h => by
    rw [tmC_cons, show (i + 1) * 2 = i * 2 + 1 + 1 by omega, List.drop_succ_cons, List.drop_succ_cons]
    exact tm_two l i t (by simpa using h)
theorem tmC_dats : ∀ l : List Tm, dats (tmC l) = true
  | [] => rfl
  | t :: l => by rw [tmC_cons]; simp [dats, LV.dat, tmC_dats l]

theorem nthL_at {l : List LV} {i : Nat} {v : LV} {K : LV → Prop} (h : l[i]? = some v) : nthL l i K = K v := by simp [nthL, h]
theorem map_at {α : Type} {f : α → LV} {l : List α} {i : Nat} {a : α} (h : l[i]? = some a) : (l.map f)[i]? = some (f a) := by simp [h]

mutual
theorem bor_self {G : LHeap} (v : LV) (h : v.dat = true) : bor G v v := by
  cases v with
  | agg l => simp only [LV.dat] at h; exact ⟨l, rfl, bors_self l h⟩
  | nilSl => exact .inl rfl
  | dy p k => simp [LV.dat] at h
  | vw p k lo len => simp [LV.dat] at h
  | _ => exact ⟨rfl, h⟩
termination_by SizeOf.sizeOf v
theorem bors_self {G : LHeap} (l : List LV) (h : dats l = true) : bors G l l := by
  cases l with
  | nil => rfl
  | cons v l =>
    simp only [dats, Bool.and_eq_true] at h
    exact ⟨v, l, rfl, bor_self v h.1, bors_self l h.2⟩
termination_by SizeOf.sizeOf l
end
/-- The place of the first; none: -1. -/
def ixZ {α : Type} (p : α → Bool) (l : List α) : Int := if l.findIdx p < l.length then (l.findIdx p : Int) else -1
theorem ixZ_at {α : Type} {p : α → Bool} {l : List α} {i : Nat} {a : α} (h : l[i]? = some a) (hp : p a = true) (hn : ∀ j b, j < i → l[j]? = some b → p b = false) : ixZ p l = i := by
  obtain ⟨hi, rfl⟩ := List.getElem?_eq_some_iff.1 h
  have : l.findIdx p = i := (List.findIdx_eq hi).2 ⟨hp, fun j hj => hn j _ hj (List.getElem?_eq_getElem _)⟩
  rw [ixZ, this, if_pos hi]
theorem ixZ_none {α : Type} {p : α → Bool} {l : List α} {i : Nat} (hi : l.length ≤ i) (hn : ∀ j b, j < i → l[j]? = some b → p b = false) : ixZ p l = -1 := by
  have : l.findIdx p = l.length := List.findIdx_eq_length.2 fun a ha => by
    obtain ⟨j, hj, rfl⟩ := List.mem_iff_getElem.1 ha
    exact hn j _ (by omega) (List.getElem?_eq_getElem _)
  rw [ixZ, this, if_neg (by omega)]
theorem ixZ_any {α : Type} (p : α → Bool) (l : List α) : decide (0 ≤ ixZ p l) = l.any p := by
  unfold ixZ
  by_cases h : l.findIdx p < l.length
  · rw [if_pos h, decide_eq_true (by omega)]
    exact (List.any_eq_true.2 ⟨_, List.getElem_mem h, List.findIdx_getElem⟩).symm
  · rw [if_neg h, decide_eq_false (by omega)]
    have h2 := List.findIdx_eq_length.1 (show l.findIdx p = l.length by have := List.findIdx_le_length (p := p) (xs := l); omega)
    exact (List.any_eq_false.2 fun x hx => by simp [h2 x hx]).symm

/-- A name's value. -/
def lookN (names : List (List UInt8)) (values : List Int) (s : List UInt8) : Option Int := if 0 ≤ ixZ (fun n => decide (s = n)) names then some (values.getD (ixZ (fun n => decide (s = n)) names).toNat 0) else none
def sumT (names : List (List UInt8)) (values : List Int) : List Tm → Option Int
  | [] => some 0
  | t :: l => match lookN names values t.1, sumT names values l with
    | some v, some s => some (t.2 * v + s)
    | _, _ => none
theorem sumT_app {names : List (List UInt8)} {values : List Int} : ∀ (a b : List Tm), sumT names values (a ++ b) = match sumT names values a, sumT names values b with
    | some x, some y => some (x + y)
    | _, _ => none
  | [], b => by simp only [List.nil_append, sumT]; cases sumT names values b <;> simp
  | t :: a, b => by
    simp only [List.cons_append, sumT, sumT_app a b]
    cases lookN names values t.1 <;> cases sumT names values a <;> cases sumT names values b <;> simp [Int.add_assoc]
theorem sumT_none {names : List (List UInt8)} {values : List Int} {t : Tm} : ∀ {l : List Tm}, t ∈ l → lookN names values t.1 = none → sumT names values l = none
  | u :: l, h, hn => by
    simp only [sumT]
    rcases List.mem_cons.1 h with rfl | h
    · rw [hn]
    · rw [sumT_none h hn]; cases lookN names values u.1 <;> rfl
theorem sumT_step {names : List (List UInt8)} {values : List Int} {l : List Tm} {i : Nat} {t : Tm} {s v : Int} (h : sumT names values (l.take i) = some s) (ht : l[i]? = some t) (hv : lookN names values t.1 = some v) : sumT names values (l.take (i + 1)) = some (s + t.2 * v) := by
  obtain ⟨hi, rfl⟩ := List.getElem?_eq_some_iff.1 ht
  rw [List.take_succ_eq_append_getElem hi, sumT_app, h]
  simp [sumT, hv]

def badV (n : Int) : Bool := decide (n < 0) || decide (1048576 < n)
/-- A length's value, and its error. -/
def valueS (c : Int) (l : List Tm) (names : List (List UInt8)) (values : List Int) : Int × Int :=
  if names.length ≠ values.length ∨ values.any badV = true then (0, 2) else match sumT names values l with
    | some s => (c + s, 0)
    | none => (0, 5)
/-- What is gone through at all. -/
def tmOk (t : Tm) : Bool := decide (t.1.length ≤ 20) && decide (t.2 ≤ 1048576) && decide (-1048576 ≤ t.2)
def lightL (c : Int) (l : List Tm) : Bool := l.all tmOk && (decide (l.length ≤ 6) && decide (c ≤ 1048576) && decide (-1048576 ≤ c))

theorem mul_bd {a b : Int} (h1 : -1048576 ≤ a) (h2 : a ≤ 1048576) (h3 : 0 ≤ b) (h4 : b ≤ 1048576) : -1099511627776 ≤ a * b ∧ a * b ≤ 1099511627776 := by
  have e1 : a * b ≤ 1048576 * b := Int.mul_le_mul_of_nonneg_right h2 h3
  have e2 : -1048576 * b ≤ a * b := Int.mul_le_mul_of_nonneg_right h1 h3
  omega
theorem sumT_le {names : List (List UInt8)} {values : List Int} (hv : ∀ v ∈ values, 0 ≤ v ∧ v ≤ 1048576) : ∀ {l : List Tm} {s : Int}, (∀ t ∈ l, -1048576 ≤ t.2 ∧ t.2 ≤ 1048576) → sumT names values l = some s → -(1099511627776 * l.length) ≤ s ∧ s ≤ 1099511627776 * l.length
  | [], s, _, h => by simp [sumT] at h; subst h; simp
  | t :: l, s, hl, h => by
    simp only [sumT] at h
    split at h
    · rename_i v r h1 h2
      cases h
      have ih := sumT_le hv (fun t ht => hl t (List.mem_cons_of_mem _ ht)) h2
      have ht := hl t (List.mem_cons_self ..)
      have hvv : 0 ≤ v ∧ v ≤ 1048576 := by
        unfold lookN at h1
        split at h1
        · cases h1
          rw [List.getD_eq_getElem?_getD]
          cases h3 : values[(ixZ (fun n => decide (t.1 = n)) names).toNat]? with
          | none => simp
          | some w => exact hv w (List.mem_of_getElem? h3)
        · cases h1
      have := mul_bd ht.1 ht.2 hvv.1 hvv.2
      simp only [List.length_cons]
      omega
    · cases h
theorem lookN_more {names : List (List UInt8)} {values : List Int} {name : List UInt8} {value : Int} (he : names.length = values.length) {s : List UInt8} {v : Int} (h : lookN names values s = some v) : lookN (names ++ [name]) (values ++ [value]) s = some v := by
  unfold lookN at h ⊢
  split at h
  · rename_i h0
    have hlt : names.findIdx (fun n => decide (s = n)) < names.length := by
      unfold ixZ at h0
      split at h0
      · assumption
      · omega
    have e1 : ixZ (fun n => decide (s = n)) names = (names.findIdx fun n => decide (s = n) : Nat) := if_pos hlt
    have e2 : ixZ (fun n => decide (s = n)) (names ++ [name]) = (names.findIdx fun n => decide (s = n) : Nat) := by
      unfold ixZ
      rw [List.findIdx_append, if_pos hlt, if_pos (by simp; omega)]
    rw [e1] at h
    rw [e2, if_pos (by omega)]
    rw [← h]
    congr 1
    simp only [Int.toNat_natCast, List.getD_eq_getElem?_getD]
    rw [List.getElem?_append_left (by omega)]
  · cases h
theorem sumT_more {names : List (List UInt8)} {values : List Int} {name : List UInt8} {value : Int} (he : names.length = values.length) : ∀ {l : List Tm} {s : Int}, sumT names values l = some s → sumT (names ++ [name]) (values ++ [value]) l = some s
  | [], s, h => h
  | t :: l, s, h => by
    simp only [sumT] at h ⊢
    split at h
    · rename_i v r h1 h2
      cases h
      rw [lookN_more he h1, sumT_more he h2]
    · cases h
theorem valueS_err {c : Int} {l : List Tm} {names : List (List UInt8)} {values : List Int} : (valueS c l names values).2 = 0 ↔ names.length = values.length ∧ values.any badV = false ∧ ∃ s, sumT names values l = some s ∧ valueS c l names values = (c + s, 0) := by
  unfold valueS
  split
  · rename_i h
    simp only [show ¬ ((2 : Int) = 0) by decide, false_iff]
    rintro ⟨h1, h2, _⟩
    rcases h with h | h
    · exact h h1
    · rw [h2] at h; cases h
  · rename_i h
    simp only [not_or, Bool.not_eq_true, Decidable.not_not] at h
    cases h2 : sumT names values l with
    | none => simp
    | some s => simp [h.1, h.2]
/-- Of two together the sum. -/
theorem valueS_both {c d : Int} {a b : List Tm} {names : List (List UInt8)} {values : List Int} :
    ((valueS c a names values).2 = 0 ∧ (valueS d b names values).2 = 0 ↔ (valueS (c + d) (a ++ b) names values).2 = 0) ∧
    ((valueS c a names values).2 = 0 → (valueS d b names values).2 = 0 → (valueS (c + d) (a ++ b) names values).1 = (valueS c a names values).1 + (valueS d b names values).1) := by
  have e := sumT_app (names := names) (values := values) a b
  refine ⟨⟨fun ⟨h1, h2⟩ => ?_, fun h => ?_⟩, fun h1 h2 => ?_⟩
  · obtain ⟨q1, q2, s, q3, q4⟩ := valueS_err.1 h1
    obtain ⟨_, _, r, r3, r4⟩ := valueS_err.1 h2
    rw [q3, r3] at e
    unfold valueS; rw [if_neg (by simp [q1, q2]), e]
  · obtain ⟨q1, q2, s, q3, q4⟩ := valueS_err.1 h
    rw [q3] at e
    split at e
    · rename_i x y hx hy
      unfold valueS
      rw [if_neg (by simp [q1, q2]), if_neg (by simp [q1, q2]), hx, hy]
      exact ⟨rfl, rfl⟩
    · cases e
  · obtain ⟨q1, q2, s, q3, q4⟩ := valueS_err.1 h1
    obtain ⟨_, _, r, r3, r4⟩ := valueS_err.1 h2
    rw [q3, r3] at e
    rw [q4, r4]
    unfold valueS; rw [if_neg (by simp [q1, q2]), e]
    dsimp only
    omega
theorem valueS_more {c : Int} {l : List Tm} {names : List (List UInt8)} {values : List Int} {name : List UInt8} {value : Int} (h0 : 0 ≤ value) (h1 : value ≤ 1048576) (h : (valueS c l names values).2 = 0) : valueS c l (names ++ [name]) (values ++ [value]) = ((valueS c l names values).1, 0) := by
  obtain ⟨q1, q2, s, q3, q4⟩ := valueS_err.1 h
  have hb : badV value = false := by simp [badV]; omega
  rw [q4]
  unfold valueS
  rw [if_neg (by simp only [List.length_append, List.any_append, q2]; simp [q1, hb]), sumT_more q1 q3]
theorem flat_one {α : Type} (f : α → LV) : ∀ l : List α, l.flatMap (fun x => [f x]) = l.map f
  | [] => rfl
  | x :: l => by rw [List.flatMap_cons, flat_one f l]; rfl
theorem flat_S (l : List { l : List UInt8 // l.length ≤ maxLen }) : l.flatMap (fun x => [LV.str x.1]) = (l.map (·.1)).map .str := by
  rw [flat_one, List.map_map]; rfl
theorem flat_I (l : List { n : Int // inI n }) : l.flatMap (fun x => [LV.i x.1]) = (l.map (·.1)).map .i := by
  rw [flat_one, List.map_map]; rfl
theorem flat_tm : ∀ l : List ({ l : List UInt8 // l.length ≤ maxLen } × { n : Int // inI n } × Unit), l.flatMap (fun x => [LV.str x.1.1, LV.i x.2.1.1]) = tmC (l.map fun e => (e.1.1, e.2.1.1))
  | [] => rfl
  | x :: l => by rw [List.flatMap_cons, flat_tm l]; rfl
end Go.Sv
/- Rows that are sorted, and each thing once; plain mathematics. -/
namespace Go.Sv

theorem lay_set (l : List Int) (j : Nat) (x : Int) (h : j < l.length) : layLV (l.map .i) j [.i x] = (l.set j x).map .i := by
  unfold layLV
  rw [List.set_eq_take_append_cons_drop, if_pos h]
  simp [List.map_take, List.map_drop]
/-- What stands at a place. -/
def gd (l : List Int) (u : Nat) : Int := l.getD u 0
theorem gd_set (l : List Int) (j u : Nat) (x : Int) (h : j < l.length) : gd (l.set j x) u = if u = j then x else gd l u := by
  simp only [gd, List.getD_eq_getElem?_getD, List.getElem?_set]
  by_cases e : j = u
  · subst e; simp [h]
  · simp [e, Ne.symm e]
theorem mem_getD {l : List Int} {x : Int} : x ∈ l ↔ ∃ u, u < l.length ∧ gd l u = x := by
  rw [List.mem_iff_getElem]
  constructor
  · rintro ⟨u, hu, e⟩; exact ⟨u, hu, by simp [gd, List.getD_eq_getElem?_getD, hu, e]⟩
  · rintro ⟨u, hu, e⟩; exact ⟨u, hu, by simpa [gd, List.getD_eq_getElem?_getD, hu] using e⟩
theorem at_getD {l : List Int} {u : Nat} (h : u < l.length) : l[u]? = some (gd l u) := by simp [gd, List.getD_eq_getElem?_getD, h]

def sTo (l : List Int) (i : Nat) : Prop := ∀ u v, u < v → v < i → gd l u ≤ gd l v
def sBut (l : List Int) (i j : Nat) : Prop := ∀ u v, u < v → v ≤ i → v ≠ j → gd l u ≤ gd l v
def swp (l : List Int) (j : Nat) : List Int := (l.set j (gd l (j - 1))).set (j - 1) (gd l j)
theorem swp_length (l : List Int) (j : Nat) : (swp l j).length = l.length := by simp [swp]
theorem swp_getD {l : List Int} {j u : Nat} (h0 : 0 < j) (h : j < l.length) : gd (swp l j) u = if u = j then gd l (j - 1) else if u = j - 1 then gd l j else gd l u := by
  unfold swp
  rw [gd_set _ _ _ _ (by simp; omega), gd_set _ _ _ _ h]
  by_cases e : u = j
  · subst e; rw [if_neg (by omega)]; simp
  · simp [e]
theorem swp_mem {l : List Int} {j : Nat} (h0 : 0 < j) (h : j < l.length) {x : Int} : x ∈ swp l j ↔ x ∈ l := by
  rw [mem_getD, mem_getD, swp_length]
  constructor
  · rintro ⟨u, hu, e⟩
    rw [swp_getD h0 h] at e
    split at e
    · exact ⟨_, by omega, e⟩
    · split at e
      · exact ⟨_, h, e⟩
      · exact ⟨_, hu, e⟩
  · rintro ⟨u, hu, e⟩
    by_cases e1 : u = j
    · exact ⟨j - 1, by omega, by rw [swp_getD h0 h, if_neg (by omega), if_pos rfl, ← e1, e]⟩
    · by_cases e2 : u = j - 1
      · exact ⟨j, h, by rw [swp_getD h0 h, if_pos rfl, ← e2, e]⟩
      · exact ⟨u, hu, by rw [swp_getD h0 h, if_neg e1, if_neg e2, e]⟩
theorem swp_but {l : List Int} {i j : Nat} (h0 : 0 < j) (hj : j ≤ i) (hi : i < l.length) (hs : sBut l i j) (hlt : gd l j < gd l (j - 1)) : sBut (swp l j) i (j - 1) := by
  intro u v huv hv hne
  rw [swp_getD h0 (by omega), swp_getD h0 (by omega)]
  by_cases b1 : v = j
  · rw [if_pos b1]
    by_cases a2 : u = j - 1
    · rw [if_neg (by omega), if_pos a2]; omega
    · rw [if_neg (by omega), if_neg a2]
      exact hs u (j - 1) (by omega) (by omega) (by omega)
  · rw [if_neg b1, if_neg hne]
    by_cases a1 : u = j
    · rw [if_pos a1]; exact hs (j - 1) v (by omega) hv b1
    · rw [if_neg a1]
      by_cases a2 : u = j - 1
      · rw [if_pos a2]; exact hs j v (by omega) hv b1
      · rw [if_neg a2]; exact hs u v huv hv b1
theorem sBut_end {l : List Int} {i j : Nat} (hj : j ≤ i) (hs : sBut l i j) (h : j = 0 ∨ gd l (j - 1) ≤ gd l j) : sTo l (i + 1) := by
  intro u v huv hv
  by_cases e : v = j
  · subst e
    rcases h with h | h
    · omega
    · by_cases e : u = v - 1
      · rw [e]; exact h
      · exact Int.le_trans (hs u (v - 1) (by omega) (by omega) (by omega)) h
  · exact hs u v huv (by omega) e
theorem sTo_start {l : List Int} {i : Nat} (h : sTo l i) : sBut l i i := fun u v huv hv hne => h u v huv (by omega)
/-! Each thing once. -/
def strict (l : List Int) (m : Nat) : Prop := ∀ u v, u < v → v < m → gd l u < gd l v
/-- What is done when the row's first d are gone through, m of them being kept. -/
structure Cmp (l0 l : List Int) (m d : Nat) : Prop where
  len : l.length = l0.length
  m1 : 1 ≤ m
  md : m ≤ d
  st : strict l m
  mem : ∀ x, (∃ u, u < m ∧ gd l u = x) ↔ ∃ u, u < d ∧ gd l0 u = x
  last : gd l (m - 1) = gd l0 (d - 1)
  rest : ∀ u, d - 1 ≤ u → gd l u = gd l0 u ∨ u < m
theorem Cmp.skip {l0 l : List Int} {m d : Nat} (h : Cmp l0 l m d) (he : gd l0 d = gd l0 (d - 1)) : Cmp l0 l m (d + 1) := by
  have h1 := h.m1
  have h2 := h.md
  refine ⟨h.len, h.m1, by omega, h.st, fun x => ?_, by rw [h.last, Nat.add_sub_cancel, he], fun u hu => h.rest u (by omega)⟩
  rw [h.mem]
  constructor
  · rintro ⟨u, hu, e⟩; exact ⟨u, by omega, e⟩
  · rintro ⟨u, hu, e⟩
    by_cases e2 : u = d
    · exact ⟨d - 1, by omega, by rw [← he, ← e2, e]⟩
    · exact ⟨u, by omega, e⟩
theorem Cmp.keep {l0 l : List Int} {m d : Nat} (h : Cmp l0 l m d) (hd : d < l0.length) (hs : sTo l0 l0.length) (he : gd l0 d ≠ gd l0 (d - 1)) (hm : m < d) : Cmp l0 (l.set m (gd l0 d)) (m + 1) (d + 1) := by
  have h1 := h.m1
  have h2 := h.md
  have hlen := h.len
  have g : ∀ u, gd (l.set m (gd l0 d)) u = if u = m then gd l0 d else gd l u := fun u => gd_set l m u _ (by omega)
  have hlt : gd l (m - 1) < gd l0 d := by
    rw [h.last]
    have := hs (d - 1) d (by omega) (by omega)
    omega
  refine ⟨by simp [hlen], by omega, by omega, fun u v huv hv => ?_, fun x => ?_, ?_, fun u hu => ?_⟩
  · rw [g, g, if_neg (by omega)]
    by_cases e : v = m
    · rw [if_pos e]
      by_cases e2 : u = m - 1
      · rw [e2]; exact hlt
      · exact Int.lt_trans (h.st u (m - 1) (by omega) (by omega)) hlt
    · rw [if_neg e]; exact h.st u v huv (by omega)
  · constructor
    · rintro ⟨u, hu, e⟩
      rw [g] at e
      split at e
      · exact ⟨d, by omega, e⟩
      · obtain ⟨w, hw, e3⟩ := (h.mem x).1 ⟨u, by omega, e⟩
        exact ⟨w, by omega, e3⟩
    · rintro ⟨u, hu, e⟩
      by_cases e2 : u = d
      · exact ⟨m, by omega, by rw [g, if_pos rfl, ← e2, e]⟩
      · obtain ⟨w, hw, e3⟩ := (h.mem x).2 ⟨u, by omega, e⟩
        exact ⟨w, by omega, by rw [g, if_neg (by omega), e3]⟩
  · rw [g, if_pos (by omega), Nat.add_sub_cancel]
  · rw [g]
    by_cases e : u = m
    · right; omega
    · rw [if_neg e]
      rcases h.rest u (by omega) with h | h
      · exact .inl h
      · right; omega
theorem Cmp.start {l : List Int} {k : Nat} (hk : 1 ≤ k) (hs : ∀ j, 1 ≤ j → j < k → gd l j ≠ gd l (j - 1)) (ht : sTo l l.length) (hl : k ≤ l.length) : Cmp l l k k := by
  refine ⟨rfl, hk, Nat.le_refl _, ?_, fun x => Iff.rfl, rfl, fun u _ => .inl rfl⟩
  intro u v huv hv
  have key : ∀ n, u + 1 + n < k → gd l u < gd l (u + 1 + n) := by
    intro n
    induction n with
    | zero =>
      intro h
      have h1 := ht u (u + 1) (by omega) (by omega)
      have h2 := hs (u + 1) (by omega) (by omega)
      rw [Nat.add_sub_cancel] at h2
      show gd l u < gd l (u + 1)
      omega
    | succ n ih =>
      intro h
      have h1 := ih (by omega)
      have h2 := ht (u + 1 + n) (u + 1 + (n + 1)) (by omega) (by omega)
      omega
  have := key (v - u - 1) (by omega)
  rwa [show u + 1 + (v - u - 1) = v by omega] at this
/-- The registers that are in a row, rising. -/
def regsOf (l : List Int) : List Int := ((List.range 16).filter fun r : Nat => decide ((r : Int) ∈ l)).map fun r : Nat => (r : Int)
theorem rise_eq : ∀ {a b : List Int}, a.Pairwise (· < ·) → b.Pairwise (· < ·) → (∀ x, x ∈ a ↔ x ∈ b) → a = b
  | [], [], _, _, _ => rfl
  | [], y :: b, _, _, h => by have := (h y).2 (List.mem_cons_self ..); simp at this
  | x :: a, [], _, _, h => by have := (h x).1 (List.mem_cons_self ..); simp at this
  | x :: a, y :: b, ha, hb, h => by
    rw [List.pairwise_cons] at ha hb
    have hxy : x = y := by
      have h1 := (h x).1 (List.mem_cons_self ..)
      have h2 := (h y).2 (List.mem_cons_self ..)
      rcases List.mem_cons.1 h1 with e | h1
      · exact e
      · rcases List.mem_cons.1 h2 with e | h2
        · exact e.symm
        · have := hb.1 x h1; have := ha.1 y h2; omega
    subst hxy
    rw [rise_eq ha.2 hb.2 fun z => ?_]
    constructor
    · intro hz
      rcases List.mem_cons.1 ((h z).1 (List.mem_cons_of_mem _ hz)) with e | h2
      · have := ha.1 z hz; omega
      · exact h2
    · intro hz
      rcases List.mem_cons.1 ((h z).2 (List.mem_cons_of_mem _ hz)) with e | h2
      · have := hb.1 z hz; omega
      · exact h2
theorem strict_rise {l : List Int} (h : strict l l.length) : l.Pairwise (· < ·) := by
  rw [List.pairwise_iff_getElem]
  intro i j hi hj hij
  have := h i j hij hj
  simpa [gd, List.getD_eq_getElem?_getD, hi, hj] using this
theorem regsOf_rise (l : List Int) : (regsOf l).Pairwise (· < ·) := by
  unfold regsOf
  rw [List.pairwise_map]
  refine List.Pairwise.filter _ ?_
  exact List.pairwise_lt_range.imp fun h => by omega
theorem regsOf_mem {l : List Int} {x : Int} : x ∈ regsOf l ↔ x ∈ l ∧ 0 ≤ x ∧ x ≤ 15 := by
  unfold regsOf
  simp only [List.mem_map, List.mem_filter, List.mem_range, decide_eq_true_eq]
  constructor
  · rintro ⟨r, ⟨h1, h2⟩, rfl⟩; exact ⟨h2, by omega, by omega⟩
  · rintro ⟨h1, h2, h3⟩
    obtain ⟨n, rfl⟩ := Int.eq_ofNat_of_zero_le h2
    exact ⟨n, ⟨by omega, h1⟩, rfl⟩
/-- What is strictly rising, and has what the registers' row has. -/
theorem regsOf_eq {l L : List Int} (hr : ∀ x ∈ l, 0 ≤ x ∧ x ≤ 15) (hs : strict L L.length) (hm : ∀ x, x ∈ L ↔ x ∈ l) : L = regsOf l :=
  rise_eq (strict_rise hs) (regsOf_rise l) fun x => by rw [regsOf_mem, hm]; exact ⟨fun h => ⟨h, hr x h⟩, fun h => h.1⟩
theorem gd_take {l : List Int} {m u : Nat} (h : u < m) : gd (l.take m) u = gd l u := by
  simp [gd, List.getD_eq_getElem?_getD, h]
theorem lay_take {a r : List LV} {m : Nat} (h : m ≤ a.length) : (layLV a m r).take m = a.take m := by
  unfold layLV
  rw [List.append_assoc, List.take_append_of_le_length (by rw [List.length_take]; omega), List.take_take, Nat.min_self]
theorem lay_length {a r : List LV} {m : Nat} (h : m + r.length = a.length) : (layLV a m r).length = a.length := by
  unfold layLV; simp; omega
theorem rep_dats {v : LV} (h : v.dat = true) : ∀ n, dats (repL [v] n) = true
  | 0 => rfl
  | n + 1 => by simp [repL, dats, h, rep_dats h n]
theorem Cmp.out {l0 l : List Int} {m : Nat} (h : Cmp l0 l m l0.length) : strict (l.take m) (l.take m).length ∧ (∀ x, x ∈ l.take m ↔ x ∈ l0) ∧ m ≤ l.length := by
  have h2 := h.md
  have h3 := h.len
  have e : (l.take m).length = m := by rw [List.length_take]; omega
  refine ⟨fun u v huv hv => ?_, fun x => ?_, by omega⟩
  · rw [e] at hv
    rw [gd_take (by omega), gd_take hv]
    exact h.st u v huv hv
  · rw [mem_getD, mem_getD, e]
    rw [← h.mem x]
    constructor
    · rintro ⟨u, hu, q⟩; exact ⟨u, hu, by rw [← q, gd_take hu]⟩
    · rintro ⟨u, hu, q⟩; exact ⟨u, hu, by rw [gd_take hu, q]⟩
theorem regsOf_len (l : List Int) : (regsOf l).length ≤ 16 := by
  unfold regsOf
  rw [List.length_map]
  exact Nat.le_trans (List.length_filter_le _ _) (by simp)
theorem regsOf_nil : regsOf [] = [] := by simp [regsOf]
end Go.Sv
/- Instructions: registers that are taken, that are made; plain mathematics. -/
namespace Go.Sv

def rl1 (x : In) : List Int := if hasB (ftOf x.op) 256 = true then [x.d] else []
def rl2 (x : In) : List Int := rl1 x ++ if hasB (ftOf x.op) 2 = true ∧ hasB (ftOf x.op) 4 = false then [x.s] else []
def rl3 (x : In) : List Int := rl2 x ++ if hasB (ftOf x.op) 4 = true then [x.t, 2] else []
def rl4 (x : In) : List Int := rl3 x ++ if hasB (ftOf x.op) 8 = true then x.base :: (if x.index = -1 then [] else [x.index]) else []
def rl5 (x : In) : List Int := rl4 x ++ if hasB (ftOf x.op) 512 = true then [4] else []
def wl1 (x : In) : List Int := if hasB (ftOf x.op) 128 = true then [x.d] else []
def wl2 (x : In) : List Int := wl1 x ++ if hasB (ftOf x.op) 4 = true then [x.s] else []
def wl3 (x : In) : List Int := wl2 x ++ if hasB (ftOf x.op) 512 = true then [4] else []
def bitN (b : Bool) : Nat := if b = true then 1 else 0
def formOk (e : OpForm) : Bool :=
  decide (bitN (hasB e 256) + bitN (hasB e 2 && !hasB e 4) + 2 * bitN (hasB e 4) + 2 * bitN (hasB e 8) + bitN (hasB e 512) ≤ 3) &&
  (decide (bitN (hasB e 128) + bitN (hasB e 4) + bitN (hasB e 512) ≤ 2) &&
  ((!hasB e 256 || hasB e 1) && ((!hasB e 128 || hasB e 1) && (!hasB e 4 || hasB e 2))))
theorem ft_ok (op : Int) : formOk (ftOf op) = true := by
  unfold ftOf
  generalize ix op 34 = n
  by_cases h : n < FT.length
  · have key : FT.all formOk = true := by decide +kernel
    have := List.all_eq_true.1 key _ (List.getElem_mem h)
    rw [List.getD_eq_getElem?_getD, List.getElem?_eq_getElem h]
    simpa using this
  · rw [List.getD_eq_getElem?_getD, List.getElem?_eq_none (by omega)]
    decide
theorem regB_iff {r : Int} : regB r = true ↔ 0 ≤ r ∧ r ≤ 15 := by simp [regB]
theorem check_parts {x : In} (h : checkB x = true) : (hasB (ftOf x.op) 1 = true → regB x.d = true) ∧ (hasB (ftOf x.op) 2 = true → regB x.s = true) ∧ (hasB (ftOf x.op) 4 = true → regB x.t = true) ∧ (hasB (ftOf x.op) 8 = true → regB x.base = true ∧ (x.index = -1 ∨ regB x.index = true)) := by
  simp only [checkB, Bool.and_eq_true] at h
  obtain ⟨⟨_, h1, h2, h4⟩, h8, _⟩ := h
  refine ⟨fun q => ?_, fun q => ?_, fun q => ?_, fun q => ?_⟩
  · rw [partB, if_pos q] at h1; exact h1
  · rw [partB, if_pos q] at h2; exact h2
  · rw [partB, if_pos q] at h4; exact h4
  · rw [memB, if_pos q] at h8
    simp only [placeB, Bool.and_eq_true] at h8
    refine ⟨h8.1.1, ?_⟩
    by_cases e : x.index = -1
    · exact .inl e
    · have := h8.2
      rw [if_neg e] at this
      simp only [Bool.and_eq_true] at this
      exact .inr this.1.1
theorem reads_in {x : In} (h : checkB x = true) : (rl5 x).length ≤ 3 ∧ ∀ r ∈ rl5 x, 0 ≤ r ∧ r ≤ 15 := by
  have hf := ft_ok x.op
  obtain ⟨p1, p2, p4, p8⟩ := check_parts h
  simp only [formOk, Bool.and_eq_true, decide_eq_true_eq] at hf
  obtain ⟨f1, f2, f3, f4, f5⟩ := hf
  unfold rl5 rl4 rl3 rl2 rl1
  generalize ftOf x.op = e at *
  have q1 : hasB e 256 = true → regB x.d = true := fun q => p1 (by rw [q] at f3; simpa using f3)
  simp only [regB_iff] at *
  constructor
  · cases h256 : hasB e 256 <;> cases h2 : hasB e 2 <;> cases h4 : hasB e 4 <;> cases h8 : hasB e 8 <;> cases h512 : hasB e 512 <;> simp [h256, h2, h4, h8, h512, bitN] at f1 ⊢ <;> split <;> simp
  · intro r hr
    simp only [List.mem_append] at hr
    rcases hr with (((hr | hr) | hr) | hr) | hr
    · split at hr
      · rename_i q; simp only [List.mem_singleton] at hr; subst hr; exact q1 q
      · cases hr
    · split at hr
      · rename_i q; simp only [List.mem_singleton] at hr; subst hr; exact p2 q.1
      · cases hr
    · split at hr
      · rename_i q
        simp only [List.mem_cons, List.not_mem_nil, or_false] at hr
        rcases hr with rfl | rfl
        · exact p4 q
        · omega
      · cases hr
    · split at hr
      · rename_i q
        obtain ⟨b1, b2⟩ := p8 q
        rcases List.mem_cons.1 hr with rfl | hr
        · exact b1
        · split at hr
          · cases hr
          · rename_i hx
            simp only [List.mem_singleton] at hr; subst hr
            exact b2.elim (fun q => absurd q hx) id
      · cases hr
    · split at hr
      · simp only [List.mem_singleton] at hr; subst hr; omega
      · cases hr
theorem writes_in {x : In} (h : checkB x = true) : (wl3 x).length ≤ 2 ∧ ∀ r ∈ wl3 x, 0 ≤ r ∧ r ≤ 15 := by
  have hf := ft_ok x.op
  obtain ⟨p1, p2, p4, p8⟩ := check_parts h
  simp only [formOk, Bool.and_eq_true, decide_eq_true_eq] at hf
  obtain ⟨f1, f2, f3, f4, f5⟩ := hf
  unfold wl3 wl2 wl1
  generalize ftOf x.op = e at *
  have q1 : hasB e 128 = true → regB x.d = true := fun q => p1 (by rw [q] at f4; simpa using f4)
  have q2 : hasB e 4 = true → regB x.s = true := fun q => p2 (by rw [q] at f5; simpa using f5)
  simp only [regB_iff] at *
  constructor
  · cases h128 : hasB e 128 <;> cases h4 : hasB e 4 <;> cases h512 : hasB e 512 <;> simp [h128, h4, h512, bitN] at f2 ⊢
  · intro r hr
    simp only [List.mem_append] at hr
    rcases hr with (hr | hr) | hr
    · split at hr
      · rename_i q; simp only [List.mem_singleton] at hr; subst hr; exact q1 q
      · cases hr
    · split at hr
      · rename_i q; simp only [List.mem_singleton] at hr; subst hr; exact q2 q
      · cases hr
    · split at hr
      · simp only [List.mem_singleton] at hr; subst hr; omega
      · cases hr
end Go.Sv
/- Instructions: kinds; plain mathematics. -/
namespace Go.Sv

theorem rise_len : ∀ (a b : List Int), a.Pairwise (· < ·) → (∀ x ∈ a, x ∈ b) → a.length ≤ b.length
  | [], b, _, _ => Nat.zero_le _
  | x :: a, b, h, hs => by
    rw [List.pairwise_cons] at h
    have hx := hs x (List.mem_cons_self ..)
    have h1 := rise_len a (b.erase x) h.2 (fun y hy => (List.mem_erase_of_ne (by have := h.1 y hy; omega)).2 (hs y (List.mem_cons_of_mem _ hy)))
    rw [List.length_erase_of_mem hx] at h1
    have := List.length_pos_of_mem hx
    simp only [List.length_cons]
    omega
theorem regsOf_le (l : List Int) : (regsOf l).length ≤ l.length := rise_len _ _ (regsOf_rise l) fun _ hx => (regsOf_mem.1 hx).1
theorem regsOf_gd {l : List Int} {i : Nat} (h : i < (regsOf l).length) : 0 ≤ gd (regsOf l) i ∧ gd (regsOf l) i ≤ 15 := by
  have : gd (regsOf l) i ∈ regsOf l := mem_getD.2 ⟨i, h, rfl⟩
  exact (regsOf_mem.1 this).2
theorem regsOf_up {l : List Int} {i : Nat} (h0 : 0 < i) (h : i < (regsOf l).length) : gd (regsOf l) (i - 1) < gd (regsOf l) i := by
  have := List.pairwise_iff_getElem.1 (regsOf_rise l) (i - 1) i (by omega) h (by omega)
  simpa [gd, List.getD_eq_getElem?_getD, h, show i - 1 < (regsOf l).length by omega] using this
def flagOk (e : OpForm) : Bool := (decide (e.2.2.1 = 0) || (decide (e.2.2.1 = 1) || (decide (e.2.2.1 = 2) || decide (e.2.2.1 = 4)))) && decide (e.2.2.2 ≤ 7)
theorem ft_flags (op : Int) : ((ftOf op).2.2.1 = 0 ∨ (ftOf op).2.2.1 = 1 ∨ (ftOf op).2.2.1 = 2 ∨ (ftOf op).2.2.1 = 4) ∧ (ftOf op).2.2.2 ≤ 7 := by
  have h : flagOk (ftOf op) = true := by
    unfold ftOf
    generalize ix op 34 = n
    by_cases h : n < FT.length
    · have key : FT.all flagOk = true := by decide +kernel
      have := List.all_eq_true.1 key _ (List.getElem_mem h)
      rw [List.getD_eq_getElem?_getD, List.getElem?_eq_getElem h]
      simpa using this
    · rw [List.getD_eq_getElem?_getD, List.getElem?_eq_none (by omega)]
      decide
  simpa [flagOk] using h
theorem check_name {x : In} (h : checkB x = true) : (ftOf x.op).1 ≠ [] := by
  simp only [checkB, Bool.and_eq_true, decide_eq_true_eq] at h
  exact h.1.1.1
theorem jump_none {x : In} (h : x.op = 30 ∨ x.op = 31 ∨ x.op = 32) : rl5 x = [] ∧ wl3 x = [] ∧ (ftOf x.op).2.2.2 = 0 := by
  have e30 : ftOf 30 = ([106, 109, 112], 16, 0, 0) := rfl
  have e31 : ftOf 31 = ([106, 110, 122], 16, 4, 0) := rfl
  have e32 : ftOf 32 = ([106, 99], 16, 1, 0) := rfl
  rcases h with h | h | h
  · simp [rl5, rl4, rl3, rl2, rl1, wl3, wl2, wl1, h, e30, hasB]
  · simp [rl5, rl4, rl3, rl2, rl1, wl3, wl2, wl1, h, e31, hasB]
  · simp [rl5, rl4, rl3, rl2, rl1, wl3, wl2, wl1, h, e32, hasB]
end Go.Sv
/- Instructions: the document's letters against the program's table; plain mathematics. -/
namespace Go.Sv

def letB (op : Int) (c : UInt8) : Bool := decide (c ∈ fsOf op)
def tabOk (f : List UInt8) (e : OpForm) : Bool :=
  (decide (68 ∈ f) == hasB e 1) && ((decide (83 ∈ f) == hasB e 2) && ((decide (84 ∈ f) == hasB e 4) && ((decide (77 ∈ f) == hasB e 8) && ((decide (105 ∈ f) == hasB e 16) && ((decide (98 ∈ f) == hasB e 64) && ((decide (73 ∈ f) == hasB e 32) && (decide (f = []) == decide (e.1 = []))))))))
theorem tab_ok (op : Int) : tabOk (fsOf op) (ftOf op) = true := by
  unfold ftOf fsOf
  generalize ix op 34 = n
  by_cases h : n < 34
  · have key : (List.range 34).all (fun n => tabOk (FS.getD n []) (FT.getD n ([], 0, 0, 0))) = true := by decide +kernel
    exact List.all_eq_true.1 key n (List.mem_range.2 h)
  · have e1 : FS.getD n [] = [] := by rw [List.getD_eq_getElem?_getD, List.getElem?_eq_none (by show 34 ≤ n; omega)]; rfl
    have e2 : FT.getD n ([], 0, 0, 0) = ([], 0, 0, 0) := by rw [List.getD_eq_getElem?_getD, List.getElem?_eq_none (by show 34 ≤ n; omega)]; rfl
    rw [e1, e2]
    decide
theorem let_at (op : Int) : letB op 68 = hasB (ftOf op) 1 ∧ letB op 83 = hasB (ftOf op) 2 ∧ letB op 84 = hasB (ftOf op) 4 ∧ letB op 77 = hasB (ftOf op) 8 ∧ letB op 105 = hasB (ftOf op) 16 ∧ letB op 98 = hasB (ftOf op) 64 ∧ letB op 73 = hasB (ftOf op) 32 ∧ (fsOf op = [] ↔ (ftOf op).1 = []) := by
  have h := tab_ok op
  simp only [tabOk, Bool.and_eq_true, beq_iff_eq] at h
  obtain ⟨h1, h2, h3, h4, h5, h6, h7, h8⟩ := h
  exact ⟨h1, h2, h3, h4, h5, h6, h7, by simpa using h8⟩
def exclB (e : OpForm) : Bool := (!hasB e 16 || !hasB e 32) && (!hasB e 64 || !hasB e 32)
theorem ft_excl (op : Int) : (hasB (ftOf op) 16 = true → hasB (ftOf op) 32 = false) ∧ (hasB (ftOf op) 64 = true → hasB (ftOf op) 32 = false) := by
  have h : exclB (ftOf op) = true := by
    unfold ftOf
    generalize ix op 34 = n
    by_cases h : n < FT.length
    · have key : FT.all exclB = true := by decide +kernel
      have := List.all_eq_true.1 key _ (List.getElem_mem h)
      rw [List.getD_eq_getElem?_getD, List.getElem?_eq_getElem h]
      simpa using this
    · rw [List.getD_eq_getElem?_getD, List.getElem?_eq_none (by omega)]
      decide
  simp only [exclB, Bool.and_eq_true, Bool.or_eq_true, Bool.not_eq_true'] at h
  exact ⟨fun q => h.1.elim (fun z => by rw [q] at z; cases z) id, fun q => h.2.elim (fun z => by rw [q] at z; cases z) id⟩
def okk0 (x : In) : Bool := decide ((ftOf x.op).1 ≠ [])
def okk1 (x : In) : Bool := okk0 x && partB (ftOf x.op) 1 x.d
def okk2 (x : In) : Bool := okk1 x && partB (ftOf x.op) 2 x.s
def okk3 (x : In) : Bool := okk2 x && (partB (ftOf x.op) 4 x.t && !(hasB (ftOf x.op) 4 && decide (x.d = x.s)))
def okk4 (x : In) : Bool := okk3 x && memB (ftOf x.op) x.base x.index x.scale x.disp
def okk5 (x : In) : Bool := okk4 x && numB (ftOf x.op) x.imm
theorem okk_check (x : In) : okk5 x = checkB x := by
  have e : checkB x = (decide ((ftOf x.op).1 ≠ []) && numB (ftOf x.op) x.imm && (partB (ftOf x.op) 1 x.d && (partB (ftOf x.op) 2 x.s && partB (ftOf x.op) 4 x.t)) && (memB (ftOf x.op) x.base x.index x.scale x.disp && !(hasB (ftOf x.op) 4 && decide (x.d = x.s)))) := rfl
  rw [e]
  unfold okk5 okk4 okk3 okk2 okk1 okk0
  generalize decide ((ftOf x.op).1 ≠ []) = a
  generalize numB (ftOf x.op) x.imm = b
  generalize partB (ftOf x.op) 1 x.d = c
  generalize partB (ftOf x.op) 2 x.s = d
  generalize partB (ftOf x.op) 4 x.t = f
  generalize memB (ftOf x.op) x.base x.index x.scale x.disp = g
  generalize (!(hasB (ftOf x.op) 4 && decide (x.d = x.s))) = h
  cases a <;> cases b <;> cases c <;> cases d <;> cases f <;> cases g <;> cases h <;> rfl
end Go.Sv
/- Instructions: registers as sixteen bools; plain mathematics. -/
namespace Go.Sv

def arrC (S : List Int) : List LV := (List.range 16).map fun r : Nat => LV.bool (decide ((r : Int) ∈ S))
theorem arr_length (S : List Int) : (arrC S).length = 16 := by simp [arrC]
theorem arr_nil : arrC [] = [.bool false, .bool false, .bool false, .bool false, .bool false, .bool false, .bool false, .bool false, .bool false, .bool false, .bool false, .bool false, .bool false, .bool false, .bool false, .bool false] := rfl
theorem arr_dats (S : List Int) : dats (arrC S) = true := dats_map (fun _ => rfl) _
theorem arr_at {S : List Int} {i : Nat} (h : i < 16) : (arrC S)[i]? = some (.bool (decide ((i : Int) ∈ S))) := by
  simp [arrC, h]
theorem arr_set {S : List Int} {r : Int} (h0 : 0 ≤ r) (h1 : r ≤ 15) : layLV (arrC S) r.toNat [.bool true] = arrC (r :: S) := by
  obtain ⟨n, rfl⟩ := Int.eq_ofNat_of_zero_le h0
  have e : layLV (arrC S) n [.bool true] = (arrC S).set n (.bool true) := by
    unfold layLV
    rw [List.set_eq_take_append_cons_drop, if_pos (by rw [arr_length]; omega)]
    simp
  show layLV (arrC S) n [.bool true] = _
  rw [e]
  refine List.ext_getElem? fun u => ?_
  rw [List.getElem?_set]
  by_cases hu : u < 16
  · rw [arr_at hu, arr_at hu, arr_length]
    by_cases hun : n = u
    · subst hun; simp [hu]
    · have : ¬ (u : Int) = n := by omega
      simp [hun, this]
  · rw [List.getElem?_eq_none (by rw [arr_length]; omega), List.getElem?_eq_none (l := arrC (_ :: S)) (by rw [arr_length]; omega), arr_length]
    by_cases hun : n = u
    · simp [hun, hu]
    · simp [hun]
theorem arr_two {S : List Int} : layLV (arrC S) 2 [.bool true] = arrC (2 :: S) := arr_set (r := 2) (by omega) (by omega)
theorem arr_four {S : List Int} : layLV (arrC S) 4 [.bool true] = arrC (4 :: S) := arr_set (r := 4) (by omega) (by omega)
def regsUp (S : List Int) (i : Nat) : List Int := ((List.range i).filter fun r : Nat => decide ((r : Int) ∈ S)).map fun r : Nat => (r : Int)
theorem regsUp_succ (S : List Int) (i : Nat) : regsUp S (i + 1) = regsUp S i ++ if (i : Int) ∈ S then [(i : Int)] else [] := by
  unfold regsUp
  rw [List.range_succ, List.filter_append, List.map_append]
  by_cases h : (i : Int) ∈ S <;> simp [h]
theorem regsUp_len (S : List Int) (i : Nat) : (regsUp S i).length ≤ i := by
  unfold regsUp
  rw [List.length_map]
  exact Nat.le_trans (List.length_filter_le _ _) (by simp)
theorem regsOf_congr {a b : List Int} (h : ∀ r, r ∈ a ↔ r ∈ b) : regsOf a = regsOf b := by
  unfold regsOf
  congr 2
  funext r
  simp [h]
def q1 (x : In) : List Int := if hasB (ftOf x.op) 2 = true ∧ hasB (ftOf x.op) 4 = false then [x.s] else []
def q2 (x : In) : List Int := if hasB (ftOf x.op) 4 = true then 2 :: x.t :: q1 x else q1 x
def q3 (x : In) : List Int := if hasB (ftOf x.op) 8 = true then (if x.index = -1 then x.base :: q2 x else x.index :: x.base :: q2 x) else q2 x
def q4 (x : In) : List Int := if hasB (ftOf x.op) 256 = true then x.d :: q3 x else q3 x
def q5 (x : In) : List Int := if hasB (ftOf x.op) 512 = true then 4 :: q4 x else q4 x
def p1 (x : In) : List Int := if hasB (ftOf x.op) 128 = true then [x.d] else []
def p2 (x : In) : List Int := if hasB (ftOf x.op) 4 = true then x.s :: p1 x else p1 x
def p3 (x : In) : List Int := if hasB (ftOf x.op) 512 = true then 4 :: p2 x else p2 x
theorem q_mem (x : In) (r : Int) : r ∈ q5 x ↔ r ∈ rl5 x := by
  unfold q5 q4 q3 q2 q1 rl5 rl4 rl3 rl2 rl1
  cases h256 : hasB (ftOf x.op) 256 <;> cases h2 : hasB (ftOf x.op) 2 <;> cases h4 : hasB (ftOf x.op) 4 <;> cases h8 : hasB (ftOf x.op) 8 <;> cases h512 : hasB (ftOf x.op) 512 <;> by_cases hx : x.index = -1 <;> simp [hx] <;> omega
theorem p_mem (x : In) (r : Int) : r ∈ p3 x ↔ r ∈ wl3 x := by
  unfold p3 p2 p1 wl3 wl2 wl1
  cases h128 : hasB (ftOf x.op) 128 <;> cases h4 : hasB (ftOf x.op) 4 <;> cases h512 : hasB (ftOf x.op) 512 <;> simp <;> omega
def relB (op : Int) (e : OpForm) : Bool :=
  (decide (op = 19) == hasB e 4) && (((hasB e 1 && !(decide (op = 1) || (decide (op = 2) || (decide (op = 3) || (decide (op = 5) || (decide (op = 19) || decide (op = 29))))))) == hasB e 256) &&
  (((decide (op = 28) || (decide (op = 29) || decide (op = 33))) == hasB e 512) && ((hasB e 1 && !(decide (op = 13) || (decide (op = 14) || decide (op = 18)))) == hasB e 128)))
theorem rel_ok (op : Int) : relB op (ftOf op) = true := by
  by_cases h : 0 ≤ op ∧ op < 34
  · obtain ⟨k, rfl⟩ := Int.eq_ofNat_of_zero_le h.1
    have e : ftOf k = FT.getD k ([], 0, 0, 0) := by simp only [ftOf]; rw [ix_in h.1 h.2]; rfl
    rw [e]
    have key : (List.range 34).all (fun n => relB (n : Int) (FT.getD n ([], 0, 0, 0))) = true := by decide +kernel
    exact List.all_eq_true.1 key k (List.mem_range.2 (by omega))
  · have e : ftOf op = ([], 0, 0, 0) := by simp [ftOf, ix_out h, FT]
    rw [e]
    have n19 : ¬ op = 19 := by omega
    have n28 : ¬ op = 28 := by omega
    have n29 : ¬ op = 29 := by omega
    have n33 : ¬ op = 33 := by omega
    simp [relB, hasB, n19, n28, n29, n33]
theorem rel_at (op : Int) : (op = 19 ↔ hasB (ftOf op) 4 = true) ∧ ((hasB (ftOf op) 1 = true ∧ ¬ (op = 1 ∨ op = 2 ∨ op = 3 ∨ op = 5 ∨ op = 19 ∨ op = 29)) ↔ hasB (ftOf op) 256 = true) ∧ ((op = 28 ∨ op = 29 ∨ op = 33) ↔ hasB (ftOf op) 512 = true) ∧ ((hasB (ftOf op) 1 = true ∧ ¬ (op = 13 ∨ op = 14 ∨ op = 18)) ↔ hasB (ftOf op) 128 = true) := by
  have h := rel_ok op
  simp only [relB, Bool.and_eq_true, beq_iff_eq] at h
  obtain ⟨h1, h2, h3, h4⟩ := h
  refine ⟨?_, ?_, ?_, ?_⟩
  · rw [← h1]; simp
  · rw [← h2]; simp only [Bool.and_eq_true, Bool.not_eq_true', Bool.or_eq_false_iff, decide_eq_false_iff_not, not_or]
  · rw [← h3]; simp only [Bool.or_eq_true, decide_eq_true_eq]
  · rw [← h4]; simp only [Bool.and_eq_true, Bool.not_eq_true', Bool.or_eq_false_iff, decide_eq_false_iff_not, not_or]
end Go.Sv
