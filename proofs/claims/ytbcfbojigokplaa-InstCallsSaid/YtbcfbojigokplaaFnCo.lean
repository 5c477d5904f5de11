/- Rows in which each thing stands once. -/
import Derived.Test.YtbcfbojigokplaaFnSo
namespace Go.Proofs.Ytbcfbojigokplaa
open Go.Sv
set_option linter.unusedSimpArgs false
set_option maxRecDepth 10000

def c_slices_Compact_int_int : LC :=
 (.seq (.ops [
   ⟨(some 2), none, .move (.c .nilSl)⟩])
 (.seq (.seq (.ops [
     ⟨(some 6), none, .move (.t 0)⟩,
     ⟨(some 7), none, .lenSl (.t 6)⟩,
     ⟨(some 8), none, .bin .lss true 3 (.t 7) (.c (.i 2))⟩])
   (.cond (.t 8)
    (.seq (.ops [
       ⟨(some 9), none, .move (.t 0)⟩,
       ⟨(some 2), none, .move (.t 9)⟩])
     .ret)
    .skip))
  (.seq (.seq (.ops [
      ⟨(some 3), none, .move (.c (.i 1))⟩])
    (.block 0 (.loop (.seq (.seq (.ops [
          ⟨(some 10), none, .move (.t 3)⟩,
          ⟨(some 11), none, .move (.t 0)⟩,
          ⟨(some 12), none, .lenSl (.t 11)⟩,
          ⟨(some 13), none, .bin .lss false 3 (.t 10) (.t 12)⟩])
        (.cond (.t 13)
         .skip
         (.exit 0)))
       (.seq (.block 1 (.seq (.draw [
            (⟨(some 16), none, .move (.t 0)⟩, []),
            (⟨(some 17), none, .move (.t 3)⟩, []),
            (⟨(some 18), none, .ixAddr 1 (.t 16) (.t 17)⟩, []),
            (⟨(some 19), none, .load1 (.t 18)⟩, []),
            (⟨(some 20), none, .move (.t 0)⟩, []),
            (⟨(some 21), none, .move (.t 3)⟩, []),
            (⟨(some 22), none, .bin .sub true 3 (.t 21) (.c (.i 1))⟩, []),
            (⟨(some 23), none, .ixAddr 1 (.t 20) (.t 22)⟩, []),
            (⟨(some 24), none, .load1 (.t 23)⟩, []),
            (⟨(some 25), none, .bin .eql false 3 (.t 19) (.t 24)⟩, [])])
          (.cond (.t 25)
           (.seq (.ops [
              ⟨(some 26), none, .move (.t 0)⟩,
              ⟨(some 27), none, .move (.t 3)⟩,
              ⟨(some 28), none, .slSl 1 (.t 26) (some (.t 27)) none⟩,
              ⟨(some 4), none, .move (.t 28)⟩])
            (.seq (.seq (.ops [
                ⟨(some 5), none, .move (.c (.i 1))⟩])
              (.block 2 (.loop (.seq (.seq (.ops [
                    ⟨(some 29), none, .move (.t 5)⟩,
                    ⟨(some 30), none, .move (.t 4)⟩,
                    ⟨(some 31), none, .lenSl (.t 30)⟩,
                    ⟨(some 32), none, .bin .lss false 3 (.t 29) (.t 31)⟩])
                  (.cond (.t 32)
                   .skip
                   (.exit 2)))
                 (.seq (.block 3 (.seq (.draw [
                      (⟨(some 35), none, .move (.t 4)⟩, []),
                      (⟨(some 36), none, .move (.t 5)⟩, []),
                      (⟨(some 37), none, .ixAddr 1 (.t 35) (.t 36)⟩, []),
                      (⟨(some 38), none, .load1 (.t 37)⟩, []),
                      (⟨(some 39), none, .move (.t 4)⟩, []),
                      (⟨(some 40), none, .move (.t 5)⟩, []),
                      (⟨(some 41), none, .bin .sub true 3 (.t 40) (.c (.i 1))⟩, []),
                      (⟨(some 42), none, .ixAddr 1 (.t 39) (.t 41)⟩, []),
                      (⟨(some 43), none, .load1 (.t 42)⟩, []),
                      (⟨(some 44), none, .bin .neq false 3 (.t 38) (.t 43)⟩, [])])
                    (.cond (.t 44)
                     (.seq (.ops [
                        ⟨(some 45), none, .move (.t 0)⟩,
                        ⟨(some 46), none, .move (.t 3)⟩,
                        ⟨(some 47), none, .move (.t 4)⟩,
                        ⟨(some 48), none, .move (.t 5)⟩,
                        ⟨(some 49), none, .ixAddr 1 (.t 47) (.t 48)⟩,
                        ⟨(some 50), none, .load1 (.t 49)⟩,
                        ⟨(some 51), none, .ixAddr 1 (.t 45) (.t 46)⟩,
                        ⟨none, none, .store 1 (.t 51) (.t 50)⟩])
                      (.ops [
                        ⟨(some 52), none, .move (.t 3)⟩,
                        ⟨(some 53), none, .bin .add true 3 (.t 52) (.c (.i 1))⟩,
                        ⟨(some 3), none, .move (.t 53)⟩]))
                     .skip)))
                  (.ops [
                    ⟨(some 33), none, .move (.t 5)⟩,
                    ⟨(some 34), none, .bin .add true 3 (.t 33) (.c (.i 1))⟩,
                    ⟨(some 5), none, .move (.t 34)⟩]))))))
             (.seq (.ops [
                ⟨(some 54), none, .move (.t 0)⟩,
                ⟨(some 55), none, .move (.t 3)⟩,
                ⟨(some 56), none, .slSl 1 (.t 54) (some (.t 55)) none⟩,
                ⟨none, none, .clear 1 [(.i 0)] (.t 56)⟩])
              (.seq (.ops [
                 ⟨(some 57), none, .move (.t 0)⟩,
                 ⟨(some 58), none, .move (.t 3)⟩,
                 ⟨(some 59), none, .slSl 1 (.t 57) none (some (.t 58))⟩,
                 ⟨(some 2), none, .move (.t 59)⟩])
               .ret))))
           .skip)))
        (.ops [
          ⟨(some 14), none, .move (.t 3)⟩,
          ⟨(some 15), none, .bin .add true 3 (.t 14) (.c (.i 1))⟩,
          ⟨(some 3), none, .move (.t 15)⟩]))))))
   (.seq (.ops [
      ⟨(some 60), none, .move (.t 0)⟩,
      ⟨(some 2), none, .move (.t 60)⟩])
    .ret))))
theorem r_slices_Compact_int_int : resFn Try.prog 41 = some ⟨61, c_slices_Compact_int_int.r, [.tmp 2]⟩ := by kernel_rfl
theorem k_slices_Compact_int_int : c_slices_Compact_int_int.ok = true := by kernel_rfl

def c_inst_set : LC :=
 (.seq (.ops [
   ⟨(some 2), none, .move (.c .nilSl)⟩])
 (.seq (.ops [
    ⟨(some 3), none, .move (.t 0)⟩,
    ⟨(some 4), none, .callV (.c (.fn (.func 40) [] [])) [(.t 3)]⟩])
  (.seq (.ops [
     ⟨(some 5), none, .move (.t 0)⟩,
     ⟨(some 6), none, .callV (.c (.fn (.func 41) [] [])) [(.t 5)]⟩,
     ⟨(some 2), none, .move (.t 6)⟩])
   .ret)))
theorem r_inst_set : resFn Try.prog 31 = some ⟨7, c_inst_set.r, [.tmp 2]⟩ := by kernel_rfl
theorem k_inst_set : c_inst_set.ok = true := by kernel_rfl



theorem Compact_ok (l : List Int) (hl : l.length ≤ 1000) (hs : sTo l l.length) (G : LHeap) (p k st : Nat) (hp : G[p]? = some (.dyn (l.map .i) l.length 1 k st)) (K : LV → LHeap → Prop)
    (hK : ∀ (v : LV) (G' : LHeap) (L : List Int), borR G' v (.lst (L.map .i) L.length 1) → strict L L.length → (∀ x, x ∈ L ↔ x ∈ l) → K v G') :
    CallL Try.prog (.fn 41) [.dy p k] G K := by
  refine call_body r_slices_Compact_int_int k_slices_Compact_int_int (by simp) ?_
  have hlt : p < G.length := (List.getElem?_eq_some_iff.1 hp).1
  have hself : G = G.set p (.dyn (l.map .i) l.length 1 k st) := by
    have := (List.getElem?_eq_some_iff.1 hp).2
    rw [← this, List.set_getElem_self]
  have hat : ∀ x, (G.set p x)[p]? = some x := fun x => by simp [hlt]
  have di : ∀ l : List Int, dats (l.map .i) = true := fun l => dats_map (fun _ => rfl) l
  have whole : strict l l.length → K (.dy p k) G := fun h => hK _ _ l ⟨_, _, _, _, rfl, hp, di l⟩ h fun _ => Iff.rfl
  by_cases h2 : (l.length : Int) < 2
  · simp [c_slices_Compact_int_int, hp, h2]
    exact whole fun u v h1 h3 => by omega
  simp [c_slices_Compact_int_int, hp, h2]
  refine loop_nx (fun ρ D G' N => ∃ j : Nat, D = [] ∧ G' = G ∧ N + j = l.length ∧ 1 ≤ j ∧ lk ρ 0 = .dy p k ∧ lk ρ 3 = .i j ∧ ∀ u, 1 ≤ u → u < j → gd l u ≠ gd l (u - 1)) (N := l.length - 1)
    ⟨1, rfl, rfl, by omega, by omega, by simp, by simp, fun u h1 h3 => by omega⟩ ?_
  rintro N ρ D G' ⟨j, rfl, hG, hN, hj, h0, h3, hne⟩ Nx hNx
  by_cases hi : l.length ≤ j
  · have g : ¬ j < l.length := by omega
    subst hG
    simp [h0, h3, hp, g]
    exact whole (Cmp.start (by omega) (fun u a b => hne u a (by omega)) hs (Nat.le_refl _)).st
  · have g : j < l.length := by omega
    have hc := map_at (f := LV.i) (at_getD (l := l) (u := j) (by omega))
    have hc1 := map_at (f := LV.i) (at_getD (l := l) (u := j - 1) (by omega))
    have e1 : ((j : Int) - 1).toNat = j - 1 := by omega
    have g2 : (1 : Int) ≤ j := by omega
    have g3 : (j : Int) - 1 < l.length := by omega
    by_cases he : gd l j = gd l (j - 1)
    · rw [hG]
      simp [h0, h3, hp, g, nthL_at hc, nthL_at hc1, e1, g2, g3, he]
      refine ⟨by omega, by omega, ?_⟩
      refine loop_nx (fun ρ D G' N => ∃ (m k2 : Nat) (l' : List Int) (st' : Nat), D = [] ∧ G' = G.set p (.dyn (l'.map .i) l.length 1 k st') ∧ N + k2 = l.length - j ∧ 1 ≤ k2 ∧ m < j + k2 ∧ lk ρ 0 = .dy p k ∧ lk ρ 3 = .i m ∧ lk ρ 4 = .vw p k j (l.length - j) ∧ lk ρ 5 = .i k2 ∧ Cmp l l' m (j + k2))
        (N := l.length - j - 1) ⟨j, 1, l, st, rfl, hself, by omega, by omega, by omega, by simp [h0], by simp [h3], by simp, by simp, (Cmp.start hj (fun u a b => hne u a b) hs (by omega)).skip he⟩ ?_
      rintro N ρ D G' ⟨m, k2, l', st', rfl, rfl, hN2, hk2, hm, h0, h3, h4, h5, hC⟩ Nx2 hNx2
      have hlen := hC.len
      by_cases hi2 : l.length - j ≤ k2
      · have g5 : ¬ k2 < l.length - j := by omega
        have ed : j + k2 = l.length := by omega
        rw [ed] at hC
        obtain ⟨o1, o2, o3⟩ := hC.out
        simp [h0, h3, h4, h5, hat, g5]
        have el : (l'.take m).length = m := by rw [List.length_take]; omega
        refine ⟨by omega, by omega, by omega, hK _ _ (l'.take m) ⟨layLV (l'.map .i) m (repL [.i 0] (l.length - m)), l.length, 1, st' + 1, ?_, hat _, ?_, ?_⟩ o1 o2⟩
        · rw [el, Nat.zero_mul, List.drop_zero, Nat.mul_one, lay_take (by simp; omega), List.map_take]
        · rw [lay_length (by rw [repL_length]; simp; omega)]; simp; omega
        · unfold layLV
          exact dats_app (dats_app (dats_take _ (di l')) (rep_dats rfl _)) (dats_drop _ (di l'))
      · have g5 : k2 < l.length - j := by omega
        have gd0 : gd l' (j + k2) = gd l (j + k2) := (hC.rest _ (by omega)).elim id fun h => by omega
        have gd1 : gd l' (j + (k2 - 1)) = gd l (j + k2 - 1) := by
          rw [show j + (k2 - 1) = j + k2 - 1 by omega]
          exact (hC.rest _ (by omega)).elim id fun h => by omega
        have hc := map_at (f := LV.i) (at_getD (l := l') (u := j + k2) (by omega))
        have hc1 := map_at (f := LV.i) (at_getD (l := l') (u := j + (k2 - 1)) (by omega))
        have e1 : ((k2 : Int) - 1).toNat = k2 - 1 := by omega
        have g7 : (1 : Int) ≤ k2 := by omega
        have g8 : (k2 : Int) - 1 < (l.length - j : Nat) := by omega
        simp [h0, h3, h4, h5, hat, g5]
        simp [nthL_at hc, nthL_at hc1, e1, g7, g8, gd0, gd1, h0, h3, h4, h5, hat, g5]
        refine ⟨by omega, fun he2 => ⟨by omega, hNx2 _ _ _ ⟨N - 1, by omega, m, k2 + 1, l', st', rfl, rfl, by omega, by omega, by omega, by simp [h0], by simp [h3], by simp [h4], by simp, hC.skip he2⟩⟩, fun he2 => ?_⟩
        rw [lay_set _ _ _ (by omega)]
        exact ⟨by omega, by omega, by omega, by omega, hNx2 _ _ _ ⟨N - 1, by omega, m + 1, k2 + 1, _, _, rfl, rfl, by omega, by omega, by omega, by simp [h0], by simp, by simp [h4], by simp, hC.keep (by omega) hs he2 hm⟩⟩
    · rw [hG]
      simp [h0, h3, hp, g, nthL_at hc, nthL_at hc1, e1, g2, g3, he]
      refine ⟨by omega, by omega, hNx _ _ _ ⟨N - 1, by omega, j + 1, rfl, rfl, by omega, by omega, by simp [h0], by simp, fun u a b => ?_⟩⟩
      by_cases e : u = j
      · rw [e]; exact he
      · exact hne u a (by omega)
/-- Registers, rising, each once. -/
theorem set_ok (l : List Int) (hl : l.length ≤ 4) (hr : ∀ x ∈ l, 0 ≤ x ∧ x ≤ 15) (G : LHeap) (p k st : Nat) (hp : G[p]? = some (.dyn (l.map .i) l.length 1 k st)) (K : LV → LHeap → Prop)
    (hK : ∀ (v : LV) (G' : LHeap), borR G' v (.lst ((regsOf l).map .i) (regsOf l).length 1) → K v G') :
    CallL Try.prog (.fn 31) [.dy p k] G K := by
  refine call_body r_inst_set k_inst_set (by simp) ?_
  have hlt : p < G.length := (List.getElem?_eq_some_iff.1 hp).1
  simp [c_inst_set]
  refine Sort_ok l hl G p k st hp _ fun l' st' e1 e2 e3 => ?_
  simp
  rw [← e1] at e3 ⊢
  refine Compact_ok l' (by omega) e3 _ p k st' (by simp [hlt]) _ fun v G' L hb hs hm => ?_
  have e : L = regsOf l := regsOf_eq hr hs fun x => by rw [hm, e2]
  rw [e] at hb
  have hv : v.cells = v.cells := rfl
  simp
  exact hK v G' hb
end Go.Proofs.Ytbcfbojigokplaa
