/- Rows of naturals. -/
import Derived.Test.YtlfffpmdofacjaaFnD
namespace Go.Proofs.Ytlfffpmdofacjaa
open Go.Sv
set_option linter.unusedSimpArgs false

def c_marshal_Row : LC :=
 (.seq (.ops [
   ⟨(some 2), none, .move (.c .nilSl)⟩,
   ⟨(some 3), none, .move (.c (.i 0))⟩])
 (.seq (.block 0 (.loop (.seq (.seq (.ops [
        ⟨(some 7), none, .move (.t 0)⟩,
        ⟨(some 8), none, .bin .neq true 9 (.t 7) (.c (.str []))⟩])
      (.cond (.t 8)
       .skip
       (.exit 0)))
     (.block 1 (.seq (.seq (.ops [
          ⟨(some 9), none, .move (.t 0)⟩,
          ⟨(some 10), none, .lenStr (.t 9)⟩,
          ⟨(some 11), none, .bin .lss true 3 (.t 10) (.c (.i 8))⟩])
        (.cond (.t 11)
         (.seq (.ops [
            ⟨(some 2), none, .move (.c .nilSl)⟩,
            ⟨(some 3), none, .move (.c (.i 2))⟩])
          .ret)
         .skip))
       (.seq (.ops [
          ⟨(some 12), none, .move (.t 0)⟩,
          ⟨(some 13), none, .slStr (.t 12) none (some (.c (.i 8)))⟩,
          ⟨(some 14), none, .cvBytes (.t 13)⟩,
          ⟨(some 15), none, .callV (.c (.fn (.func 51) [] [])) [(.t 14)]⟩,
          ⟨(some 4), none, .move (.t 15)⟩])
        (.seq (.ops [
           ⟨(some 16), none, .move (.t 0)⟩,
           ⟨(some 17), none, .slStr (.t 16) (some (.c (.i 8))) none⟩,
           ⟨(some 0), none, .move (.t 17)⟩])
         (.seq (.seq (.ops [
             ⟨(some 18), none, .move (.t 4)⟩,
             ⟨(some 19), none, .bin .gtr true 29 (.t 18) (.c (.u 512))⟩,
             ⟨(some 20), none, .move (.t 19)⟩,
             ⟨(some 21), (some (20, false)), .move (.t 0)⟩,
             ⟨(some 22), (some (20, false)), .lenStr (.t 21)⟩,
             ⟨(some 23), (some (20, false)), .cvInt .u64 (.t 22)⟩,
             ⟨(some 24), (some (20, false)), .move (.t 4)⟩,
             ⟨(some 25), (some (20, false)), .bin .mul true 29 (.c (.u 8)) (.t 24)⟩,
             ⟨(some 26), (some (20, false)), .bin .lss false 29 (.t 23) (.t 25)⟩,
             ⟨(some 27), none, .pick (.t 20) (.c (.bool true)) (.t 26)⟩])
           (.cond (.t 27)
            (.seq (.ops [
               ⟨(some 2), none, .move (.c .nilSl)⟩,
               ⟨(some 3), none, .move (.c (.i 2))⟩])
             .ret)
            .skip))
          (.seq (.ops [
             ⟨(some 29), none, .move (.t 0)⟩,
             ⟨(some 30), none, .move (.t 4)⟩,
             ⟨(some 31), none, .bin .mul true 29 (.c (.u 8)) (.t 30)⟩,
             ⟨(some 32), none, .slStr (.t 29) none (some (.t 31))⟩,
             ⟨(some 33), none, .callV (.c (.fn (.func 14) [] [])) [(.t 32)]⟩,
             ⟨(some 28), none, .move (.t 33)⟩,
             ⟨(some 34), none, .extract 0 (.t 28)⟩,
             ⟨(some 35), none, .extract 1 (.t 28)⟩,
             ⟨(some 5), none, .move (.t 34)⟩,
             ⟨(some 6), none, .move (.t 35)⟩])
           (.seq (.seq (.ops [
               ⟨(some 36), none, .move (.t 6)⟩,
               ⟨(some 37), none, .bin .neq true 25 (.t 36) (.c (.i 0))⟩])
             (.cond (.t 37)
              (.seq (.ops [
                 ⟨(some 38), none, .move (.t 6)⟩,
                 ⟨(some 2), none, .move (.c .nilSl)⟩,
                 ⟨(some 3), none, .move (.t 38)⟩])
               .ret)
              .skip))
            (.seq (.ops [
               ⟨(some 39), none, .move (.t 2)⟩,
               ⟨(some 40), none, .move (.t 5)⟩,
               ⟨(some 41), none, .buildSl 1 1 [.nilSl] [(0, 1, (.t 40))]⟩,
               ⟨(some 42), none, .appG 1 (.t 39) (.t 41)⟩,
               ⟨(some 2), none, .move (.t 42)⟩])
             (.ops [
               ⟨(some 43), none, .move (.t 0)⟩,
               ⟨(some 44), none, .move (.t 4)⟩,
               ⟨(some 45), none, .bin .mul true 29 (.c (.u 8)) (.t 44)⟩,
               ⟨(some 46), none, .slStr (.t 43) (some (.t 45)) none⟩,
               ⟨(some 0), none, .move (.t 46)⟩]))))))))))))
  (.seq (.ops [
     ⟨(some 47), none, .move (.t 2)⟩,
     ⟨(some 2), none, .move (.t 47)⟩,
     ⟨(some 3), none, .move (.c (.i 0))⟩])
   .ret)))
theorem r_marshal_Row : resFn Try.prog 20 = some ⟨48, c_marshal_Row.r, [.tmp 2, .tmp 3]⟩ := by kernel_rfl
theorem k_marshal_Row : c_marshal_Row.ok = true := by kernel_rfl

def c_kit_LightNats : LC :=
 (.seq (.ops [
   ⟨(some 6), none, .move (.c (.bool false))⟩])
 (.seq (.seq (.ops [
     ⟨(some 7), none, .move (.c (.i 0))⟩])
   (.block 0 (.loop (.seq (.seq (.ops [
         ⟨(some 8), none, .move (.t 7)⟩,
         ⟨(some 9), none, .move (.t 0)⟩,
         ⟨(some 10), none, .lenSl (.t 9)⟩,
         ⟨(some 11), none, .bin .lss false 3 (.t 8) (.t 10)⟩])
       (.cond (.t 11)
        .skip
        (.exit 0)))
      (.seq (.block 1 (.seq (.ops [
           ⟨(some 14), none, .move (.t 0)⟩,
           ⟨(some 15), none, .move (.t 7)⟩,
           ⟨(some 16), none, .ixAddr 1 (.t 14) (.t 15)⟩,
           ⟨(some 17), none, .load1 (.t 16)⟩,
           ⟨(some 18), none, .lenSl (.t 17)⟩,
           ⟨(some 19), none, .move (.t 2)⟩,
           ⟨(some 20), none, .bin .gtr false 3 (.t 18) (.t 19)⟩])
         (.cond (.t 20)
          (.seq (.ops [
             ⟨(some 6), none, .move (.c (.bool false))⟩])
           .ret)
          .skip)))
       (.ops [
         ⟨(some 12), none, .move (.t 7)⟩,
         ⟨(some 13), none, .bin .add true 3 (.t 12) (.c (.i 1))⟩,
         ⟨(some 7), none, .move (.t 13)⟩]))))))
  (.seq (.ops [
     ⟨(some 21), none, .move (.t 0)⟩,
     ⟨(some 22), none, .lenSl (.t 21)⟩,
     ⟨(some 23), none, .move (.t 1)⟩,
     ⟨(some 24), none, .bin .leq false 3 (.t 22) (.t 23)⟩,
     ⟨(some 6), none, .move (.t 24)⟩])
   .ret)))
theorem r_kit_LightNats : resFn Try.prog 17 = some ⟨25, c_kit_LightNats.r, [.tmp 6]⟩ := by kernel_rfl
theorem k_kit_LightNats : c_kit_LightNats.ok = true := by kernel_rfl

def c_kit_SameNats : LC :=
 (.seq (.ops [
   ⟨(some 4), none, .move (.c (.bool false))⟩])
 (.seq (.seq (.ops [
     ⟨(some 9), none, .move (.t 0)⟩,
     ⟨(some 10), none, .lenSl (.t 9)⟩,
     ⟨(some 11), none, .move (.t 1)⟩,
     ⟨(some 12), none, .lenSl (.t 11)⟩,
     ⟨(some 13), none, .bin .neq false 3 (.t 10) (.t 12)⟩])
   (.cond (.t 13)
    (.seq (.ops [
       ⟨(some 4), none, .move (.c (.bool false))⟩])
     .ret)
    .skip))
  (.seq (.seq (.ops [
      ⟨(some 5), none, .move (.c (.i 0))⟩])
    (.block 0 (.loop (.seq (.seq (.ops [
          ⟨(some 14), none, .move (.t 5)⟩,
          ⟨(some 15), none, .move (.t 0)⟩,
          ⟨(some 16), none, .lenSl (.t 15)⟩,
          ⟨(some 17), none, .bin .lss false 3 (.t 14) (.t 16)⟩])
        (.cond (.t 17)
         .skip
         (.exit 0)))
       (.seq (.block 1 (.seq (.ops [
            ⟨(some 6), none, .move (.c (.i 0))⟩])
          (.block 2 (.loop (.seq (.seq (.draw [
                (⟨(some 20), none, .move (.t 6)⟩, []),
                (⟨(some 21), none, .move (.t 0)⟩, []),
                (⟨(some 22), none, .move (.t 5)⟩, []),
                (⟨(some 23), none, .ixAddr 1 (.t 21) (.t 22)⟩, []),
                (⟨(some 24), none, .load1 (.t 23)⟩, []),
                (⟨(some 25), none, .lenSl (.t 24)⟩, []),
                (⟨(some 26), none, .move (.t 1)⟩, []),
                (⟨(some 27), none, .move (.t 5)⟩, []),
                (⟨(some 28), none, .ixAddr 1 (.t 26) (.t 27)⟩, []),
                (⟨(some 29), none, .load1 (.t 28)⟩, []),
                (⟨(some 30), none, .lenSl (.t 29)⟩, []),
                (⟨(some 31), none, .maxi true (.t 25) (.t 30)⟩, []),
                (⟨(some 32), none, .bin .lss false 3 (.t 20) (.t 31)⟩, [])])
              (.cond (.t 32)
               .skip
               (.exit 2)))
             (.seq (.block 3 (.seq (.ops [
                  ⟨(some 7), none, .move (.c (.u 0))⟩,
                  ⟨(some 8), none, .move (.c (.u 0))⟩])
                (.seq (.seq (.ops [
                    ⟨(some 35), none, .move (.t 6)⟩,
                    ⟨(some 36), none, .move (.t 0)⟩,
                    ⟨(some 37), none, .move (.t 5)⟩,
                    ⟨(some 38), none, .ixAddr 1 (.t 36) (.t 37)⟩,
                    ⟨(some 39), none, .load1 (.t 38)⟩,
                    ⟨(some 40), none, .lenSl (.t 39)⟩,
                    ⟨(some 41), none, .bin .lss false 3 (.t 35) (.t 40)⟩])
                  (.cond (.t 41)
                   (.ops [
                     ⟨(some 42), none, .move (.t 0)⟩,
                     ⟨(some 43), none, .move (.t 5)⟩,
                     ⟨(some 44), none, .ixAddr 1 (.t 42) (.t 43)⟩,
                     ⟨(some 45), none, .load1 (.t 44)⟩,
                     ⟨(some 46), none, .move (.t 6)⟩,
                     ⟨(some 47), none, .ixAddr 1 (.t 45) (.t 46)⟩,
                     ⟨(some 48), none, .load1 (.t 47)⟩,
                     ⟨(some 7), none, .move (.t 48)⟩])
                   .skip))
                 (.seq (.seq (.ops [
                     ⟨(some 49), none, .move (.t 6)⟩,
                     ⟨(some 50), none, .move (.t 1)⟩,
                     ⟨(some 51), none, .move (.t 5)⟩,
                     ⟨(some 52), none, .ixAddr 1 (.t 50) (.t 51)⟩,
                     ⟨(some 53), none, .load1 (.t 52)⟩,
                     ⟨(some 54), none, .lenSl (.t 53)⟩,
                     ⟨(some 55), none, .bin .lss false 3 (.t 49) (.t 54)⟩])
                   (.cond (.t 55)
                    (.ops [
                      ⟨(some 56), none, .move (.t 1)⟩,
                      ⟨(some 57), none, .move (.t 5)⟩,
                      ⟨(some 58), none, .ixAddr 1 (.t 56) (.t 57)⟩,
                      ⟨(some 59), none, .load1 (.t 58)⟩,
                      ⟨(some 60), none, .move (.t 6)⟩,
                      ⟨(some 61), none, .ixAddr 1 (.t 59) (.t 60)⟩,
                      ⟨(some 62), none, .load1 (.t 61)⟩,
                      ⟨(some 8), none, .move (.t 62)⟩])
                    .skip))
                  (.seq (.ops [
                     ⟨(some 63), none, .move (.t 7)⟩,
                     ⟨(some 64), none, .move (.t 8)⟩,
                     ⟨(some 65), none, .bin .neq false 29 (.t 63) (.t 64)⟩])
                   (.cond (.t 65)
                    (.seq (.ops [
                       ⟨(some 4), none, .move (.c (.bool false))⟩])
                     .ret)
                    .skip))))))
              (.ops [
                ⟨(some 33), none, .move (.t 6)⟩,
                ⟨(some 34), none, .bin .add true 3 (.t 33) (.c (.i 1))⟩,
                ⟨(some 6), none, .move (.t 34)⟩])))))))
        (.ops [
          ⟨(some 18), none, .move (.t 5)⟩,
          ⟨(some 19), none, .bin .add true 3 (.t 18) (.c (.i 1))⟩,
          ⟨(some 5), none, .move (.t 19)⟩]))))))
   (.seq (.ops [
      ⟨(some 4), none, .move (.c (.bool true))⟩])
    .ret))))
theorem r_kit_SameNats : resFn Try.prog 21 = some ⟨66, c_kit_SameNats.r, [.tmp 4]⟩ := by kernel_rfl
theorem k_kit_SameNats : c_kit_SameNats.ok = true := by kernel_rfl



theorem kit_LightNats_ok (l : List (List UInt64)) (n m : Int) (hl : l.length ≤ 9223372036854775807) : FnS Try.prog 17 [LN l, .i n, .i m] (.bool (decide (l.length ≤ n ∧ ∀ x ∈ l, (x.length : Int) ≤ m))) [] := by
  refine FnS.val rfl (call_body r_kit_LightNats k_kit_LightNats (by simp) ?_)
  simp [c_kit_LightNats]
  refine loop_nx (fun ρ D G N => ∃ i : Nat, D = [] ∧ N + i = l.length ∧ lk ρ 0 = LN l ∧ lk ρ 1 = .i n ∧ lk ρ 2 = .i m ∧ lk ρ 7 = .i i ∧ ∀ x ∈ l.take i, (x.length : Int) ≤ m) (N := l.length) ⟨0, by simp⟩ ?_
  rintro N ρ D G ⟨i, rfl, hN, h0, h1, h2, h7, hm⟩ Nx hNx
  by_cases hz : N = 0
  · have hi : i = l.length := by omega
    subst hi
    rw [List.take_length] at hm
    simp [h0, h1, h7]
    exact fun _ => hm
  · have hi : i < l.length := by omega
    by_cases hx : m < ((l.getD i []).length : Int)
    · have hf : ¬ (l.length ≤ n ∧ ∀ x ∈ l, (x.length : Int) ≤ m) := fun h => by
        have := h.2 (l.getD i []) (by simp [hi])
        omega
      simp [hi] at hx
      simp [h0, h1, h2, h7, hi, hx]
      simpa using hf
    · have hmi : ∀ x ∈ l.take (i + 1), (x.length : Int) ≤ m := by
        intro x hx2
        rw [List.take_succ_eq_append_getElem hi] at hx2
        rcases List.mem_append.1 hx2 with h | h
        · exact hm x h
        · simp at h; subst h; simpa [hi] using hx
      simp [hi] at hx
      have hx2 : ¬ m < (l[i].length : Int) := by omega
      simp [h0, h1, h2, h7, hi, hx2]
      exact ⟨by omega, hNx _ _ _ ⟨N - 1, by omega, i + 1, rfl, by omega, by simp [h0], by simp [h1], by simp [h2], by simp, hmi⟩⟩

theorem kit_Same_ok (a b : List UInt64) (hl : a.length ≤ 1000000000) : FnS Try.prog 19 [LU a, LU b] (.bool (decide (a = b))) [] := by
  refine FnS.val rfl (call_body r_kit_Same_uint64 k_kit_Same_uint64 (by simp) ?_)
  by_cases hab : a.length = b.length
  · simp [c_kit_Same_uint64, hab]
    refine loop_nx (fun ρ D G N => ∃ i : Nat, D = [] ∧ N + i = a.length ∧ lk ρ 0 = LU a ∧ lk ρ 1 = LU b ∧ lk ρ 5 = .i i ∧ a.take i = b.take i) (N := a.length) ⟨0, by simp [hab]⟩ ?_
    rintro N ρ D G ⟨i, rfl, hN, h0, h1, h5, ht⟩ Nx hNx
    by_cases hz : N = 0
    · have hi : i = a.length := by omega
      subst hi
      have e : a = b := by rwa [List.take_length, hab, List.take_length] at ht
      subst e
      simp [h0, h5]
    · have hi : i < a.length := by omega
      have hib : i < b.length := by omega
      by_cases hx : a[i] = b[i]
      · simp [h0, h1, h5, hi, hib, hx]
        refine ⟨by omega, hNx _ _ _ ⟨N - 1, by omega, i + 1, rfl, by omega, by simp [h0], by simp [h1], by simp, ?_⟩⟩
        rw [List.take_succ_eq_append_getElem hi, List.take_succ_eq_append_getElem hib, ht, hx]
      · have e : a ≠ b := fun e => hx (by subst e; rfl)
        simp [h0, h1, h5, hi, hib, hx, e]
  · have e : a ≠ b := fun e => hab (by rw [e])
    have hab' : ¬ (a.length : Int) = b.length := by omega
    simp [c_kit_Same_uint64, hab, hab', e]

theorem kit_SameNats_ok (a b : List (List UInt64)) (hl : a.length ≤ 1000000000) (ha : ∀ x ∈ a, x.length ≤ 1000000000) (hb : ∀ x ∈ b, x.length ≤ 1000000000) : FnS Try.prog 21 [LN a, LN b] (.bool (decide (a.map val = b.map val))) [] := by
  refine FnS.val rfl (call_body r_kit_SameNats k_kit_SameNats (by simp) ?_)
  by_cases hab : a.length = b.length
  · simp [c_kit_SameNats, hab]
    refine loop_nx (fun ρ D G N => ∃ i : Nat, D = [] ∧ N + i = a.length ∧ lk ρ 0 = LN a ∧ lk ρ 1 = LN b ∧ lk ρ 5 = .i i ∧ ∀ j, j < i → val (a.getD j []) = val (b.getD j [])) (N := a.length) ⟨0, by simp [hab]⟩ ?_
    rintro N ρ D G ⟨i, rfl, hN, h0, h1, h5, ht⟩ Nx hNx
    by_cases hz : N = 0
    · have hi : i = a.length := by omega
      subst hi
      have e := vals_eq hab ht
      simp [h0, h5, e]
    · have hi : i < a.length := by omega
      have hib : i < b.length := by omega
      simp [h0, h5, hi]
      obtain ⟨x, hx⟩ : ∃ x, a.getD i [] = x := ⟨_, rfl⟩
      obtain ⟨y, hy⟩ : ∃ y, b.getD i [] = y := ⟨_, rfl⟩
      have hxa : a[i] = x := by simpa [hi] using hx
      have hyb : b[i] = y := by simpa [hib] using hy
      have lx : x.length ≤ 1000000000 := ha x (by rw [← hxa]; simp)
      have ly : y.length ≤ 1000000000 := hb y (by rw [← hyb]; simp)
      refine loop_nx (fun ρ D G N => ∃ k : Nat, D = [] ∧ N + k = max x.length y.length ∧ lk ρ 0 = LN a ∧ lk ρ 1 = LN b ∧ lk ρ 5 = .i i ∧ lk ρ 6 = .i k ∧ val (x.take k) = val (y.take k)) (N := max x.length y.length) ⟨0, by simp [h0, h1, h5]⟩ ?_
      rintro M ρ D G ⟨k, rfl, hM, g0, g1, g5, g6, hv⟩ Mx hMx
      have next : x.getD k 0 = y.getD k 0 → val (x.take (k + 1)) = val (y.take (k + 1)) := fun e => by rw [val_take_next, val_take_next, e, hv]
      have nx : x.getD k 0 = y.getD k 0 → (k < x.length ∨ k < y.length) → ∃ M', M' < M ∧ M' + (k + 1) = max x.length y.length ∧ val (x.take (k + 1)) = val (y.take (k + 1)) := fun e h => ⟨M - 1, by omega, by omega, next e⟩
      have diff : x.getD k 0 ≠ y.getD k 0 → a.map val ≠ b.map val := fun e => vals_ne (i := i) (k := k) (by rw [hx, hy]; exact e)
      by_cases ix : k < x.length <;> by_cases iy : k < y.length
      · have hk : (k : Int) < max (x.length : Int) (y.length : Int) := by omega
        simp [ix, iy] at next diff nx
        simp [g0, g1, g5, g6, hi, hib, hxa, hyb, ix, iy, hk]
        refine ⟨fun e => ⟨by omega, ?_⟩, diff⟩
        obtain ⟨M', n1, n2, n3⟩ := nx e
        exact hMx _ _ _ ⟨M', n1, k + 1, rfl, n2, by simp [g0], by simp [g1], by simp [g5], by simp, n3⟩
      · have hk : (k : Int) < max (x.length : Int) (y.length : Int) := by omega
        have ey : y[k]? = none := by simp; omega
        simp [ix, ey] at next diff nx
        simp [g0, g1, g5, g6, hi, hib, hxa, hyb, ix, iy, hk]
        refine ⟨fun e => ⟨by omega, ?_⟩, diff⟩
        obtain ⟨M', n1, n2, n3⟩ := nx e
        exact hMx _ _ _ ⟨M', n1, k + 1, rfl, n2, by simp [g0], by simp [g1], by simp [g5], by simp, n3⟩
      · have hk : (k : Int) < max (x.length : Int) (y.length : Int) := by omega
        have ex : x[k]? = none := by simp; omega
        simp [iy, ex] at next diff nx
        simp [g0, g1, g5, g6, hi, hib, hxa, hyb, ix, iy, hk]
        refine ⟨fun e => ⟨by omega, ?_⟩, diff⟩
        obtain ⟨M', n1, n2, n3⟩ := nx e
        exact hMx _ _ _ ⟨M', n1, k + 1, rfl, n2, by simp [g0], by simp [g1], by simp [g5], by simp, n3⟩
      · have hk : ¬ (k : Int) < max (x.length : Int) (y.length : Int) := by omega
        rw [val_take_big (by omega), val_take_big (by omega)] at hv
        simp [g0, g1, g5, g6, hi, hib, hxa, hyb, hk]
        refine ⟨by omega, hNx _ _ _ ⟨N - 1, by omega, i + 1, rfl, by omega, by simp [g0], by simp [g1], by simp, fun j hj => ?_⟩⟩
        by_cases hji : j = i
        · subst hji; rw [hx, hy]; exact hv
        · exact ht j (by omega)
  · have e : a.map val ≠ b.map val := fun e => hab (by simpa using congrArg List.length e)
    have hab' : ¬ (a.length : Int) = b.length := by omega
    simp [c_kit_SameNats, hab, hab', e]
end Go.Proofs.Ytlfffpmdofacjaa
