/- Lengths: a length's value, what is gone through. -/
import Derived.Test.YtlmmcachokiabaaGreatSvG4
import Derived.Test.YtlmmcachokiabaaGreatFnL19
namespace Go.Proofs.YtlmmcachokiabaaGreat
open Go.Sv
set_option linter.unusedSimpArgs false

def c_slices_IndexFunc_int_int : LC :=
 (.seq (.ops [
   ⟨(some 4), none, .move (.c (.i 0))⟩])
 (.seq (.seq (.ops [
     ⟨(some 6), none, .move (.t 0)⟩,
     ⟨(some 7), none, .lenSl (.t 6)⟩,
     ⟨(some 8), none, .move (.c (.i 0))⟩])
   (.block 0 (.loop (.seq (.ops [
        ⟨(some 9), none, .bin .lss false 3 (.t 8) (.t 7)⟩])
      (.seq (.cond (.t 9)
        .skip
        (.exit 0))
       (.seq (.block 1 (.seq (.ops [
            ⟨(some 10), none, .move (.t 8)⟩,
            ⟨(some 5), none, .move (.t 10)⟩])
          (.seq (.ops [
             ⟨(some 11), none, .move (.t 1)⟩,
             ⟨(some 12), none, .move (.t 0)⟩,
             ⟨(some 13), none, .move (.t 5)⟩,
             ⟨(some 14), none, .ixAddr 1 (.t 12) (.t 13)⟩,
             ⟨(some 15), none, .load1 (.t 14)⟩,
             ⟨(some 16), none, .callV (.t 11) [(.t 15)]⟩])
           (.cond (.t 16)
            (.seq (.ops [
               ⟨(some 17), none, .move (.t 5)⟩,
               ⟨(some 4), none, .move (.t 17)⟩])
             .ret)
            .skip))))
        (.ops [
          ⟨(some 18), none, .bin .add true 3 (.t 8) (.c (.i 1))⟩,
          ⟨(some 8), none, .move (.t 18)⟩])))))))
  (.seq (.ops [
     ⟨(some 4), none, .move (.c (.i (-1)))⟩])
   .ret)))
theorem r_slices_IndexFunc_int_int : resFn Tryz.prog 68 = some ⟨19, c_slices_IndexFunc_int_int.r, [.tmp 4]⟩ := by kernel_rfl
theorem k_slices_IndexFunc_int_int : c_slices_IndexFunc_int_int.ok = true := by kernel_rfl

def c_slices_ContainsFunc_int_int : LC :=
 (.seq (.ops [
   ⟨(some 4), none, .move (.c (.bool false))⟩])
 (.seq (.ops [
    ⟨(some 5), none, .move (.t 0)⟩,
    ⟨(some 6), none, .move (.t 1)⟩,
    ⟨(some 7), none, .callV (.c (.fn (.func 68) [] [])) [(.t 5), (.t 6)]⟩,
    ⟨(some 8), none, .bin .geq true 3 (.t 7) (.c (.i 0))⟩,
    ⟨(some 4), none, .move (.t 8)⟩])
  .ret))
theorem r_slices_ContainsFunc_int_int : resFn Tryz.prog 34 = some ⟨9, c_slices_ContainsFunc_int_int.r, [.tmp 4]⟩ := by kernel_rfl
theorem k_slices_ContainsFunc_int_int : c_slices_ContainsFunc_int_int.ok = true := by kernel_rfl

def c_slices_Index_string_string : LC :=
 (.seq (.ops [
   ⟨(some 4), none, .move (.c (.i 0))⟩])
 (.seq (.seq (.ops [
     ⟨(some 6), none, .move (.t 0)⟩,
     ⟨(some 7), none, .lenSl (.t 6)⟩,
     ⟨(some 8), none, .move (.c (.i 0))⟩])
   (.block 0 (.loop (.seq (.ops [
        ⟨(some 9), none, .bin .lss false 3 (.t 8) (.t 7)⟩])
      (.seq (.cond (.t 9)
        .skip
        (.exit 0))
       (.seq (.block 1 (.seq (.ops [
            ⟨(some 10), none, .move (.t 8)⟩,
            ⟨(some 5), none, .move (.t 10)⟩])
          (.seq (.ops [
             ⟨(some 11), none, .move (.t 1)⟩,
             ⟨(some 12), none, .move (.t 0)⟩,
             ⟨(some 13), none, .move (.t 5)⟩,
             ⟨(some 14), none, .ixAddr 1 (.t 12) (.t 13)⟩,
             ⟨(some 15), none, .load1 (.t 14)⟩,
             ⟨(some 16), none, .bin .eql false 9 (.t 11) (.t 15)⟩])
           (.cond (.t 16)
            (.seq (.ops [
               ⟨(some 17), none, .move (.t 5)⟩,
               ⟨(some 4), none, .move (.t 17)⟩])
             .ret)
            .skip))))
        (.ops [
          ⟨(some 18), none, .bin .add true 3 (.t 8) (.c (.i 1))⟩,
          ⟨(some 8), none, .move (.t 18)⟩])))))))
  (.seq (.ops [
     ⟨(some 4), none, .move (.c (.i (-1)))⟩])
   .ret)))
theorem r_slices_Index_string_string : resFn Tryz.prog 36 = some ⟨19, c_slices_Index_string_string.r, [.tmp 4]⟩ := by kernel_rfl
theorem k_slices_Index_string_string : c_slices_Index_string_string.ok = true := by kernel_rfl

def c_lengths_Value_1 : LC :=
 (.seq (.ops [
   ⟨(some 2), none, .move (.c (.bool false))⟩])
 (.seq (.ops [
    ⟨(some 3), none, .move (.t 0)⟩,
    ⟨(some 4), none, .bin .lss true 3 (.t 3) (.c (.i 0))⟩,
    ⟨(some 5), none, .move (.t 4)⟩,
    ⟨(some 6), (some (5, false)), .move (.t 0)⟩,
    ⟨(some 7), (some (5, false)), .bin .gtr true 3 (.t 6) (.c (.i 1048576))⟩,
    ⟨(some 8), none, .pick (.t 5) (.c (.bool true)) (.t 7)⟩,
    ⟨(some 2), none, .move (.t 8)⟩])
  .ret))
theorem r_lengths_Value_1 : resFn Tryz.prog 35 = some ⟨9, c_lengths_Value_1.r, [.tmp 2]⟩ := by kernel_rfl
theorem k_lengths_Value_1 : c_lengths_Value_1.ok = true := by kernel_rfl

def c_lengths_Value : LC :=
 (.seq (.ops [
   ⟨(some 3), none, .box (.t 0)⟩,
   ⟨(some 6), none, .move (.c (.i 0))⟩,
   ⟨(some 7), none, .move (.c (.i 0))⟩])
 (.seq (.seq (.ops [
     ⟨(some 12), none, .move (.t 1)⟩,
     ⟨(some 13), none, .lenSl (.t 12)⟩,
     ⟨(some 14), none, .move (.t 2)⟩,
     ⟨(some 15), none, .lenSl (.t 14)⟩,
     ⟨(some 16), none, .bin .neq false 3 (.t 13) (.t 15)⟩,
     ⟨(some 17), none, .move (.t 16)⟩,
     ⟨(some 18), (some (17, false)), .move (.t 2)⟩,
     ⟨(some 19), (some (17, false)), .callV (.c (.fn (.func 34) [] [])) [(.t 18), (.c (.fn (.func 35) [] []))]⟩,
     ⟨(some 20), none, .pick (.t 17) (.c (.bool true)) (.t 19)⟩])
   (.cond (.t 20)
    (.seq (.ops [
       ⟨(some 6), none, .move (.c (.i 0))⟩,
       ⟨(some 7), none, .move (.c (.i 2))⟩])
     .ret)
    .skip))
  (.seq (.ops [
     ⟨(some 21), none, .fieldAddr 0 (.t 3)⟩,
     ⟨(some 22), none, .load1 (.t 21)⟩,
     ⟨(some 8), none, .move (.t 22)⟩])
   (.seq (.seq (.ops [
       ⟨(some 23), none, .fieldAddr 1 (.t 3)⟩,
       ⟨(some 24), none, .load1 (.t 23)⟩,
       ⟨(some 25), none, .lenSl (.t 24)⟩,
       ⟨(some 26), none, .move (.c (.i 0))⟩])
     (.block 0 (.loop (.seq (.ops [
          ⟨(some 27), none, .bin .lss false 3 (.t 26) (.t 25)⟩])
        (.seq (.cond (.t 27)
          .skip
          (.exit 0))
         (.seq (.block 1 (.seq (.ops [
              ⟨(some 28), none, .ixAddr 2 (.t 24) (.t 26)⟩,
              ⟨(some 29), none, .loadN 2 (.t 28)⟩,
              ⟨(some 10), none, .alloc [(.str []), (.i 0)]⟩,
              ⟨none, none, .store 2 (.t 10) (.t 29)⟩])
            (.seq (.ops [
               ⟨(some 30), none, .move (.t 1)⟩,
               ⟨(some 31), none, .fieldAddr 0 (.t 10)⟩,
               ⟨(some 32), none, .load1 (.t 31)⟩,
               ⟨(some 33), none, .callV (.c (.fn (.func 36) [] [])) [(.t 30), (.t 32)]⟩,
               ⟨(some 11), none, .move (.t 33)⟩])
             (.seq (.seq (.ops [
                 ⟨(some 34), none, .move (.t 11)⟩,
                 ⟨(some 35), none, .bin .lss true 3 (.t 34) (.c (.i 0))⟩])
               (.cond (.t 35)
                (.seq (.ops [
                   ⟨(some 6), none, .move (.c (.i 0))⟩,
                   ⟨(some 7), none, .move (.c (.i 5))⟩])
                 .ret)
                .skip))
              (.draw [
                (⟨(some 36), none, .move (.t 8)⟩, []),
                (⟨(some 37), none, .fieldAddr 1 (.t 10)⟩, []),
                (⟨(some 38), none, .load1 (.t 37)⟩, []),
                (⟨(some 39), none, .move (.t 2)⟩, []),
                (⟨(some 40), none, .move (.t 11)⟩, []),
                (⟨(some 41), none, .ixAddr 1 (.t 39) (.t 40)⟩, []),
                (⟨(some 42), none, .load1 (.t 41)⟩, []),
                (⟨(some 43), none, .bin .mul false 3 (.t 38) (.t 42)⟩, []),
                (⟨(some 44), none, .bin .add false 3 (.t 36) (.t 43)⟩, []),
                (⟨(some 8), none, .move (.t 44)⟩, [])])))))
          (.ops [
            ⟨(some 45), none, .bin .add true 3 (.t 26) (.c (.i 1))⟩,
            ⟨(some 26), none, .move (.t 45)⟩])))))))
    (.seq (.ops [
       ⟨(some 46), none, .move (.t 8)⟩,
       ⟨(some 6), none, .move (.t 46)⟩,
       ⟨(some 7), none, .move (.c (.i 0))⟩])
     .ret)))))
theorem r_lengths_Value : resFn Tryz.prog 11 = some ⟨47, c_lengths_Value.r, [.tmp 6, .tmp 7]⟩ := by kernel_rfl
theorem k_lengths_Value : c_lengths_Value.ok = true := by kernel_rfl

def c_kit_LightLen : LC :=
 (.seq (.ops [
   ⟨(some 1), none, .box (.t 0)⟩,
   ⟨(some 2), none, .move (.c (.bool false))⟩])
 (.seq (.seq (.ops [
     ⟨(some 3), none, .move (.c (.i 0))⟩])
   (.block 0 (.loop (.seq (.seq (.ops [
         ⟨(some 4), none, .move (.t 3)⟩,
         ⟨(some 5), none, .fieldAddr 1 (.t 1)⟩,
         ⟨(some 6), none, .load1 (.t 5)⟩,
         ⟨(some 7), none, .lenSl (.t 6)⟩,
         ⟨(some 8), none, .bin .lss false 3 (.t 4) (.t 7)⟩])
       (.cond (.t 8)
        .skip
        (.exit 0)))
      (.seq (.block 1 (.seq (.ops [
           ⟨(some 11), none, .fieldAddr 1 (.t 1)⟩,
           ⟨(some 12), none, .load1 (.t 11)⟩,
           ⟨(some 13), none, .move (.t 3)⟩,
           ⟨(some 14), none, .ixAddr 2 (.t 12) (.t 13)⟩,
           ⟨(some 15), none, .fieldAddr 0 (.t 14)⟩,
           ⟨(some 16), none, .load1 (.t 15)⟩,
           ⟨(some 17), none, .lenStr (.t 16)⟩,
           ⟨(some 18), none, .bin .gtr true 3 (.t 17) (.c (.i 20))⟩,
           ⟨(some 19), none, .move (.t 18)⟩,
           ⟨(some 20), (some (19, false)), .fieldAddr 1 (.t 1)⟩,
           ⟨(some 21), (some (19, false)), .load1 (.t 20)⟩,
           ⟨(some 22), (some (19, false)), .move (.t 3)⟩,
           ⟨(some 23), (some (19, false)), .ixAddr 2 (.t 21) (.t 22)⟩,
           ⟨(some 24), (some (19, false)), .fieldAddr 1 (.t 23)⟩,
           ⟨(some 25), (some (19, false)), .load1 (.t 24)⟩,
           ⟨(some 26), (some (19, false)), .bin .gtr true 3 (.t 25) (.c (.i 1048576))⟩,
           ⟨(some 27), none, .pick (.t 19) (.c (.bool true)) (.t 26)⟩,
           ⟨(some 28), none, .move (.t 27)⟩,
           ⟨(some 29), (some (28, false)), .fieldAddr 1 (.t 1)⟩,
           ⟨(some 30), (some (28, false)), .load1 (.t 29)⟩,
           ⟨(some 31), (some (28, false)), .move (.t 3)⟩,
           ⟨(some 32), (some (28, false)), .ixAddr 2 (.t 30) (.t 31)⟩,
           ⟨(some 33), (some (28, false)), .fieldAddr 1 (.t 32)⟩,
           ⟨(some 34), (some (28, false)), .load1 (.t 33)⟩,
           ⟨(some 35), (some (28, false)), .bin .lss true 3 (.t 34) (.c (.i (-1048576)))⟩,
           ⟨(some 36), none, .pick (.t 28) (.c (.bool true)) (.t 35)⟩])
         (.cond (.t 36)
          (.seq (.ops [
             ⟨(some 2), none, .move (.c (.bool false))⟩])
           .ret)
          .skip)))
       (.ops [
         ⟨(some 9), none, .move (.t 3)⟩,
         ⟨(some 10), none, .bin .add true 3 (.t 9) (.c (.i 1))⟩,
         ⟨(some 3), none, .move (.t 10)⟩]))))))
  (.seq (.ops [
     ⟨(some 37), none, .fieldAddr 1 (.t 1)⟩,
     ⟨(some 38), none, .load1 (.t 37)⟩,
     ⟨(some 39), none, .lenSl (.t 38)⟩,
     ⟨(some 40), none, .bin .leq true 3 (.t 39) (.c (.i 6))⟩,
     ⟨(some 41), none, .move (.t 40)⟩,
     ⟨(some 42), (some (41, true)), .fieldAddr 0 (.t 1)⟩,
     ⟨(some 43), (some (41, true)), .load1 (.t 42)⟩,
     ⟨(some 44), (some (41, true)), .bin .leq true 3 (.t 43) (.c (.i 1048576))⟩,
     ⟨(some 45), none, .pick (.t 41) (.t 44) (.c (.bool false))⟩,
     ⟨(some 46), none, .move (.t 45)⟩,
     ⟨(some 47), (some (46, true)), .fieldAddr 0 (.t 1)⟩,
     ⟨(some 48), (some (46, true)), .load1 (.t 47)⟩,
     ⟨(some 49), (some (46, true)), .bin .geq true 3 (.t 48) (.c (.i (-1048576)))⟩,
     ⟨(some 50), none, .pick (.t 46) (.t 49) (.c (.bool false))⟩,
     ⟨(some 2), none, .move (.t 50)⟩])
   .ret)))
theorem r_kit_LightLen : resFn Tryz.prog 10 = some ⟨51, c_kit_LightLen.r, [.tmp 2]⟩ := by kernel_rfl
theorem k_kit_LightLen : c_kit_LightLen.ok = true := by kernel_rfl



theorem lengths_Value_1_ok (n : Int) : FnS Tryz.prog 35 [.i n] (.bool (badV n)) [] := by
  refine FnS.val rfl (call_body r_lengths_Value_1 k_lengths_Value_1 (by simp) ?_)
  by_cases h0 : n < 0 <;> by_cases h1 : 1048576 < n <;> simp [c_lengths_Value_1, badV, h0, h1]
theorem IndexFunc_ok (l : List Int) (hl : l.length ≤ 9223372036854775807) : FnS Tryz.prog 68 [.lst (l.map .i) l.length 1, .fn (.func 35) [] []] (.i (ixZ badV l)) [] := by
  refine FnS.val rfl (call_body r_slices_IndexFunc_int_int k_slices_IndexFunc_int_int (by simp) ?_)
  simp [c_slices_IndexFunc_int_int]
  refine loop_nx (fun ρ D G N => ∃ i : Nat, D = [] ∧ N + i = l.length ∧ lk ρ 0 = .lst (l.map .i) l.length 1 ∧ lk ρ 1 = .fn (.func 35) [] [] ∧ lk ρ 7 = .i l.length ∧ lk ρ 8 = .i i ∧ ∀ j b, j < i → l[j]? = some b → badV b = false) (N := l.length) ⟨0, by simp⟩ ?_
  rintro N ρ D G ⟨i, rfl, hN, h0, h1, h7, h8, hn⟩ Nx hNx
  by_cases hi : l.length ≤ i
  · have g : ¬ i < l.length := by omega
    simp [h0, h1, h7, h8, g]
    rw [ixZ_none hi hn]
  · have g : i < l.length := by omega
    have hg := List.getElem?_eq_getElem g
    simp [h0, h1, h7, h8, g]
    simp [nthL_at (map_at (f := LV.i) hg)]
    refine CallL_F (lengths_Value_1_ok l[i]) (by simp) ?_
    cases hb : badV l[i] with
    | true =>
      simp
      rw [ixZ_at hg hb hn]
    | false =>
      simp [h8]
      refine ⟨by omega, hNx _ _ _ ⟨N - 1, by omega, i + 1, rfl, by omega, by simp [h0], by simp [h1], by simp [h7], by simp, fun j b hj hjb => ?_⟩⟩
      by_cases e : j = i
      · subst e; rw [hg] at hjb; cases hjb; exact hb
      · exact hn j b (by omega) hjb
theorem ContainsFunc_ok (l : List Int) (hl : l.length ≤ 9223372036854775807) : FnS Tryz.prog 34 [.lst (l.map .i) l.length 1, .fn (.func 35) [] []] (.bool (l.any badV)) [] := by
  refine FnS.val rfl (call_body r_slices_ContainsFunc_int_int k_slices_ContainsFunc_int_int (by simp) ?_)
  simp [c_slices_ContainsFunc_int_int]
  refine CallL_F (IndexFunc_ok l hl) (by simp [bors, bor, LV.dat, dats]; exact dats_map (fun _ => rfl) l) ?_
  simp
  exact ixZ_any badV l
theorem Index_ok (l : List (List UInt8)) (s : List UInt8) (hl : l.length ≤ 9223372036854775807) : FnS Tryz.prog 36 [.lst (l.map .str) l.length 1, .str s] (.i (ixZ (fun n => decide (s = n)) l)) [] := by
  refine FnS.val rfl (call_body r_slices_Index_string_string k_slices_Index_string_string (by simp) ?_)
  simp [c_slices_Index_string_string]
  refine loop_nx (fun ρ D G N => ∃ i : Nat, D = [] ∧ N + i = l.length ∧ lk ρ 0 = .lst (l.map .str) l.length 1 ∧ lk ρ 1 = .str s ∧ lk ρ 7 = .i l.length ∧ lk ρ 8 = .i i ∧ ∀ j b, j < i → l[j]? = some b → decide (s = b) = false) (N := l.length) ⟨0, by simp⟩ ?_
  rintro N ρ D G ⟨i, rfl, hN, h0, h1, h7, h8, hn⟩ Nx hNx
  by_cases hi : l.length ≤ i
  · have g : ¬ i < l.length := by omega
    simp [h0, h1, h7, h8, g]
    rw [ixZ_none hi hn]
  · have g : i < l.length := by omega
    have hg := List.getElem?_eq_getElem g
    by_cases hb : s = l[i]
    · simp [h0, h1, h7, h8, g]
      simp [nthL_at (map_at (f := LV.str) hg), ← hb]
      rw [ixZ_at hg (by simp [hb]) hn]
    · simp [h0, h1, h7, h8, g]
      simp [nthL_at (map_at (f := LV.str) hg), h8, hb]
      refine ⟨by omega, hNx _ _ _ ⟨N - 1, by omega, i + 1, rfl, by omega, by simp [h0], by simp [h1], by simp [h7], by simp, fun j b hj hjb => ?_⟩⟩
      by_cases e : j = i
      · subst e; rw [hg] at hjb; cases hjb; simp [hb]
      · exact hn j b (by omega) hjb
theorem kit_LightLen_ok (c : Int) (l : List Tm) (hl : l.length ≤ 9223372036854775807) : FnS Tryz.prog 10 [.agg [.i c, .lst (tmC l) l.length 2]] (.bool (lightL c l)) [] := by
  refine FnS.val rfl (call_body r_kit_LightLen k_kit_LightLen (by simp) ?_)
  simp [c_kit_LightLen]
  refine loop_nx (fun ρ D G N => ∃ i : Nat, D = [] ∧ G = [.cells [.i c, .lst (tmC l) l.length 2] 0] ∧ N + i = l.length ∧ lk ρ 1 = .ptr 0 0 ∧ lk ρ 3 = .i i ∧ ∀ j t, j < i → l[j]? = some t → tmOk t = true) (N := l.length) ⟨0, by simp⟩ ?_
  rintro N ρ D G ⟨i, rfl, rfl, hN, h1, h3, hn⟩ Nx hNx
  by_cases hi : l.length ≤ i
  · have g : ¬ i < l.length := by omega
    have ha : l.all tmOk = true := List.all_eq_true.2 fun t ht => by
      obtain ⟨j, hj, rfl⟩ := List.mem_iff_getElem.1 ht
      exact hn j _ (by omega) (List.getElem?_eq_getElem _)
    by_cases g1 : (l.length : Int) ≤ 6 <;> by_cases g2 : c ≤ 1048576 <;> by_cases g3 : -1048576 ≤ c <;> simp [h1, h3, g, g1, g2, g3, lightL, ha] <;> omega
  · have g : i < l.length := by omega
    have hg := List.getElem?_eq_getElem g
    have q0 : (tmC l)[i * 2]? = some (.str l[i].1) := by rw [tm_at0, hg]; rfl
    have q1 : (tmC l)[i * 2 + 1]? = some (.i l[i].2) := by rw [tm_at1, hg]; rfl
    have bad : tmOk l[i] = false → lightL c l = false := fun h => by
      have : l.all tmOk = false := List.all_eq_false.2 ⟨_, List.getElem_mem g, by simp [h]⟩
      simp [lightL, this]
    have good : tmOk l[i] = true → ∀ j t, j < i + 1 → l[j]? = some t → tmOk t = true := fun h j t hj ht => by
      by_cases e : j = i
      · subst e; rw [hg] at ht; cases ht; exact h
      · exact hn j t (by omega) ht
    have hq : i * 2 + 1 < (tmC l).length := by rw [tmC_length]; omega
    by_cases t1 : 20 < (l[i].1.length : Int)
    · simp [h1, h3, g]
      simp [nthL_at q0, nthL_at q1, h1, h3, g, t1]
      exact bad (by simp [tmOk]; omega)
    by_cases t2 : 1048576 < l[i].2
    · simp [h1, h3, g]
      simp [nthL_at q0, nthL_at q1, h1, h3, g, t1, t2]
      exact bad (by simp [tmOk]; omega)
    by_cases t3 : l[i].2 < -1048576
    · simp [h1, h3, g]
      simp [nthL_at q0, nthL_at q1, h1, h3, g, t1, t2, t3]
      exact bad (by simp [tmOk]; omega)
    simp [h1, h3, g]
    simp [nthL_at q0, nthL_at q1, h1, h3, g, t1, t2, t3]
    exact ⟨by omega, hNx _ _ _ ⟨N - 1, by omega, i + 1, rfl, rfl, by omega, by simp [h1], by simp, good (by simp [tmOk]; omega)⟩⟩
end Go.Proofs.YtlmmcachokiabaaGreat
