/- Lengths: the statement LengthsValues: its walk. -/
import Derived.Test.YtlmmcachokiabaaGreatFnLw
namespace Go.Proofs.YtlmmcachokiabaaGreat
open Go.Sv
set_option maxRecDepth 10000
set_option linter.unusedSimpArgs false

def c_law19_LengthsValues : LC :=
 (.seq (.ops [
   ⟨(some 6), none, .box (.t 0)⟩,
   ⟨(some 7), none, .box (.t 1)⟩,
   ⟨(some 12), none, .move (.c (.bool false))⟩])
 (.seq (.seq (.ops [
     ⟨(some 22), none, .callV (.c (.fn (.func 9) [] [])) []⟩,
     ⟨(some 23), none, .un .not (.t 22)⟩])
   (.cond (.t 23)
    (.seq (.ops [
       ⟨(some 12), none, .move (.c (.bool false))⟩])
     .ret)
    .skip))
  (.seq (.seq (.ops [
      ⟨(some 24), none, .loadN 2 (.t 6)⟩,
      ⟨(some 25), none, .callV (.c (.fn (.func 10) [] [])) [(.t 24)]⟩,
      ⟨(some 26), none, .un .not (.t 25)⟩,
      ⟨(some 27), none, .move (.t 26)⟩,
      ⟨(some 28), (some (27, false)), .loadN 2 (.t 7)⟩,
      ⟨(some 29), (some (27, false)), .callV (.c (.fn (.func 10) [] [])) [(.t 28)]⟩,
      ⟨(some 30), (some (27, false)), .un .not (.t 29)⟩,
      ⟨(some 31), none, .pick (.t 27) (.c (.bool true)) (.t 30)⟩,
      ⟨(some 32), none, .move (.t 31)⟩,
      ⟨(some 33), (some (32, false)), .move (.t 2)⟩,
      ⟨(some 34), (some (32, false)), .lenSl (.t 33)⟩,
      ⟨(some 35), (some (32, false)), .bin .gtr true 3 (.t 34) (.c (.i 10))⟩,
      ⟨(some 36), none, .pick (.t 32) (.c (.bool true)) (.t 35)⟩,
      ⟨(some 37), none, .move (.t 36)⟩,
      ⟨(some 38), (some (37, false)), .move (.t 3)⟩,
      ⟨(some 39), (some (37, false)), .lenSl (.t 38)⟩,
      ⟨(some 40), (some (37, false)), .bin .gtr true 3 (.t 39) (.c (.i 10))⟩,
      ⟨(some 41), none, .pick (.t 37) (.c (.bool true)) (.t 40)⟩])
    (.cond (.t 41)
     (.seq (.ops [
        ⟨(some 12), none, .move (.c (.bool true))⟩])
      .ret)
     .skip))
   (.seq (.ops [
      ⟨(some 43), none, .loadN 2 (.t 6)⟩,
      ⟨(some 44), none, .move (.t 2)⟩,
      ⟨(some 45), none, .move (.t 3)⟩,
      ⟨(some 46), none, .callV (.c (.fn (.func 11) [] [])) [(.t 43), (.t 44), (.t 45)]⟩,
      ⟨(some 42), none, .move (.t 46)⟩,
      ⟨(some 47), none, .extract 0 (.t 42)⟩,
      ⟨(some 48), none, .extract 1 (.t 42)⟩,
      ⟨(some 13), none, .move (.t 47)⟩,
      ⟨(some 14), none, .move (.t 48)⟩])
    (.seq (.ops [
       ⟨(some 50), none, .loadN 2 (.t 7)⟩,
       ⟨(some 51), none, .move (.t 2)⟩,
       ⟨(some 52), none, .move (.t 3)⟩,
       ⟨(some 53), none, .callV (.c (.fn (.func 11) [] [])) [(.t 50), (.t 51), (.t 52)]⟩,
       ⟨(some 49), none, .move (.t 53)⟩,
       ⟨(some 54), none, .extract 0 (.t 49)⟩,
       ⟨(some 55), none, .extract 1 (.t 49)⟩,
       ⟨(some 15), none, .move (.t 54)⟩,
       ⟨(some 16), none, .move (.t 55)⟩])
     (.seq (.draw [
        (⟨(some 56), none, .fieldAddr 0 (.t 6)⟩, []),
        (⟨(some 57), none, .load1 (.t 56)⟩, []),
        (⟨(some 58), none, .fieldAddr 0 (.t 7)⟩, []),
        (⟨(some 59), none, .load1 (.t 58)⟩, []),
        (⟨(some 60), none, .bin .add false 3 (.t 57) (.t 59)⟩, []),
        (⟨(some 61), none, .buildSl 2 0 [] []⟩, [(⟨(some 59), none, .load1 (.t 58)⟩, false), (⟨(some 57), none, .load1 (.t 56)⟩, false)]),
        (⟨(some 62), none, .fieldAddr 1 (.t 6)⟩, []),
        (⟨(some 63), none, .load1 (.t 62)⟩, []),
        (⟨(some 65), none, .fieldAddr 1 (.t 7)⟩, []),
        (⟨(some 66), none, .load1 (.t 65)⟩, []),
        (⟨(some 17), none, .alloc [(.i 0), .nilSl]⟩, [(⟨(some 66), none, .load1 (.t 65)⟩, false), (⟨(some 63), none, .load1 (.t 62)⟩, false), (⟨(some 61), none, .buildSl 2 0 [] []⟩, true), (⟨(some 59), none, .load1 (.t 58)⟩, false), (⟨(some 57), none, .load1 (.t 56)⟩, false)]),
        (⟨(some 64), none, .appG 2 (.t 61) (.t 63)⟩, [(⟨(some 17), none, .alloc [(.i 0), .nilSl]⟩, true), (⟨(some 66), none, .load1 (.t 65)⟩, false), (⟨(some 59), none, .load1 (.t 58)⟩, false), (⟨(some 57), none, .load1 (.t 56)⟩, false)]),
        (⟨(some 67), none, .appG 2 (.t 64) (.t 66)⟩, [(⟨(some 17), none, .alloc [(.i 0), .nilSl]⟩, true), (⟨(some 59), none, .load1 (.t 58)⟩, false), (⟨(some 57), none, .load1 (.t 56)⟩, false)]),
        (⟨(some 68), none, .build [(.i 0), .nilSl] [(0, 1, (.t 60)), (1, 1, (.t 67))]⟩, []),
        (⟨none, none, .store 2 (.t 17) (.t 68)⟩, [])])
      (.seq (.ops [
         ⟨(some 70), none, .loadN 2 (.t 17)⟩,
         ⟨(some 71), none, .move (.t 2)⟩,
         ⟨(some 72), none, .move (.t 3)⟩,
         ⟨(some 73), none, .callV (.c (.fn (.func 11) [] [])) [(.t 70), (.t 71), (.t 72)]⟩,
         ⟨(some 69), none, .move (.t 73)⟩,
         ⟨(some 74), none, .extract 0 (.t 69)⟩,
         ⟨(some 75), none, .extract 1 (.t 69)⟩,
         ⟨(some 18), none, .move (.t 74)⟩,
         ⟨(some 19), none, .move (.t 75)⟩])
       (.seq (.seq (.ops [
           ⟨(some 76), none, .move (.t 14)⟩,
           ⟨(some 77), none, .bin .eql true 29 (.t 76) (.c (.i 0))⟩,
           ⟨(some 78), none, .move (.t 77)⟩,
           ⟨(some 79), (some (78, true)), .move (.t 16)⟩,
           ⟨(some 80), (some (78, true)), .bin .eql true 29 (.t 79) (.c (.i 0))⟩,
           ⟨(some 81), none, .pick (.t 78) (.t 80) (.c (.bool false))⟩])
         (.cond (.t 81)
          (.seq (.ops [
             ⟨(some 82), none, .move (.t 19)⟩,
             ⟨(some 83), none, .bin .neq true 29 (.t 82) (.c (.i 0))⟩,
             ⟨(some 84), none, .move (.t 83)⟩,
             ⟨(some 85), (some (84, false)), .move (.t 18)⟩,
             ⟨(some 86), (some (84, false)), .move (.t 13)⟩,
             ⟨(some 87), (some (84, false)), .move (.t 15)⟩,
             ⟨(some 88), (some (84, false)), .bin .add false 3 (.t 86) (.t 87)⟩,
             ⟨(some 89), (some (84, false)), .bin .neq false 3 (.t 85) (.t 88)⟩,
             ⟨(some 90), none, .pick (.t 84) (.c (.bool true)) (.t 89)⟩])
           (.cond (.t 90)
            (.seq (.ops [
               ⟨(some 12), none, .move (.c (.bool false))⟩])
             .ret)
            .skip))
          (.seq (.ops [
             ⟨(some 91), none, .move (.t 19)⟩,
             ⟨(some 92), none, .bin .eql true 29 (.t 91) (.c (.i 0))⟩])
           (.cond (.t 92)
            (.seq (.ops [
               ⟨(some 12), none, .move (.c (.bool false))⟩])
             .ret)
            .skip))))
        (.seq (.seq (.ops [
            ⟨(some 93), none, .move (.t 5)⟩,
            ⟨(some 94), none, .bin .lss true 3 (.t 93) (.c (.i 0))⟩,
            ⟨(some 95), none, .move (.t 94)⟩,
            ⟨(some 96), (some (95, false)), .move (.t 5)⟩,
            ⟨(some 97), (some (95, false)), .bin .gtr true 3 (.t 96) (.c (.i 1048576))⟩,
            ⟨(some 98), none, .pick (.t 95) (.c (.bool true)) (.t 97)⟩,
            ⟨(some 99), none, .move (.t 98)⟩,
            ⟨(some 100), (some (99, false)), .move (.t 14)⟩,
            ⟨(some 101), (some (99, false)), .bin .neq true 29 (.t 100) (.c (.i 0))⟩,
            ⟨(some 102), none, .pick (.t 99) (.c (.bool true)) (.t 101)⟩])
          (.cond (.t 102)
           (.seq (.ops [
              ⟨(some 12), none, .move (.c (.bool true))⟩])
            .ret)
           .skip))
         (.seq (.draw [
            (⟨(some 104), none, .loadN 2 (.t 6)⟩, []),
            (⟨(some 105), none, .buildSl 1 0 [] []⟩, [(⟨(some 104), none, .loadN 2 (.t 6)⟩, false)]),
            (⟨(some 106), none, .move (.t 2)⟩, []),
            (⟨(some 108), none, .move (.t 4)⟩, []),
            (⟨(some 109), none, .buildSl 1 1 [(.str [])] [(0, 1, (.t 108))]⟩, [(⟨(some 105), none, .buildSl 1 0 [] []⟩, true), (⟨(some 104), none, .loadN 2 (.t 6)⟩, false)]),
            (⟨(some 111), none, .buildSl 1 0 [] []⟩, [(⟨(some 109), none, .buildSl 1 1 [(.str [])] [(0, 1, (.t 108))]⟩, true), (⟨(some 105), none, .buildSl 1 0 [] []⟩, true), (⟨(some 104), none, .loadN 2 (.t 6)⟩, false)]),
            (⟨(some 112), none, .move (.t 3)⟩, []),
            (⟨(some 114), none, .move (.t 5)⟩, []),
            (⟨(some 115), none, .buildSl 1 1 [(.i 0)] [(0, 1, (.t 114))]⟩, [(⟨(some 111), none, .buildSl 1 0 [] []⟩, true), (⟨(some 109), none, .buildSl 1 1 [(.str [])] [(0, 1, (.t 108))]⟩, true), (⟨(some 105), none, .buildSl 1 0 [] []⟩, true), (⟨(some 104), none, .loadN 2 (.t 6)⟩, false)]),
            (⟨(some 107), none, .appG 1 (.t 105) (.t 106)⟩, [(⟨(some 115), none, .buildSl 1 1 [(.i 0)] [(0, 1, (.t 114))]⟩, true), (⟨(some 111), none, .buildSl 1 0 [] []⟩, true), (⟨(some 109), none, .buildSl 1 1 [(.str [])] [(0, 1, (.t 108))]⟩, true), (⟨(some 104), none, .loadN 2 (.t 6)⟩, false)]),
            (⟨(some 110), none, .appG 1 (.t 107) (.t 109)⟩, [(⟨(some 115), none, .buildSl 1 1 [(.i 0)] [(0, 1, (.t 114))]⟩, true), (⟨(some 111), none, .buildSl 1 0 [] []⟩, true), (⟨(some 104), none, .loadN 2 (.t 6)⟩, false)]),
            (⟨(some 113), none, .appG 1 (.t 111) (.t 112)⟩, [(⟨(some 115), none, .buildSl 1 1 [(.i 0)] [(0, 1, (.t 114))]⟩, true), (⟨(some 104), none, .loadN 2 (.t 6)⟩, false)]),
            (⟨(some 116), none, .appG 1 (.t 113) (.t 115)⟩, [(⟨(some 104), none, .loadN 2 (.t 6)⟩, false)]),
            (⟨(some 117), none, .callV (.c (.fn (.func 11) [] [])) [(.t 104), (.t 110), (.t 116)]⟩, []),
            (⟨(some 103), none, .move (.t 117)⟩, []),
            (⟨(some 118), none, .extract 0 (.t 103)⟩, []),
            (⟨(some 119), none, .extract 1 (.t 103)⟩, []),
            (⟨(some 20), none, .move (.t 118)⟩, []),
            (⟨(some 21), none, .move (.t 119)⟩, [])])
          (.seq (.ops [
             ⟨(some 120), none, .move (.t 21)⟩,
             ⟨(some 121), none, .bin .eql true 29 (.t 120) (.c (.i 0))⟩,
             ⟨(some 122), none, .move (.t 121)⟩,
             ⟨(some 123), (some (122, true)), .move (.t 20)⟩,
             ⟨(some 124), (some (122, true)), .move (.t 13)⟩,
             ⟨(some 125), (some (122, true)), .bin .eql false 3 (.t 123) (.t 124)⟩,
             ⟨(some 126), none, .pick (.t 122) (.t 125) (.c (.bool false))⟩,
             ⟨(some 12), none, .move (.t 126)⟩])
           .ret)))))))))))
theorem r_law19_LengthsValues : resFn Tryz.prog 3 = some ⟨127, c_law19_LengthsValues.r, [.tmp 12]⟩ := by kernel_rfl
theorem k_law19_LengthsValues : c_law19_LengthsValues.ok = true := by kernel_rfl



def law19_R (v : LV) (_ : LHeap) : Prop := v = .bool true
theorem dats_lens {c : Int} {t : List Tm} : dats [.agg [.i c, .lst (tmC t) t.length 2]] = true := by simp [dats, LV.dat, tmC_dats]
theorem dats_strs (l : List (List UInt8)) : dats (l.map .str) = true := dats_map (fun _ => rfl) l
theorem dats_ints (l : List Int) : dats (l.map .i) = true := dats_map (fun _ => rfl) l
theorem law19_LengthsValues_run (ca : Int) (ta : List Tm) (cb : Int) (tb : List Tm) (names : List (List UInt8)) (values : List Int) (name : List UInt8) (value : Int)
    (la : ta.length ≤ 9223372036854775807) (lb : tb.length ≤ 9223372036854775807) (h1 : names.length ≤ 9223372036854775807) (h2 : values.length ≤ 9223372036854775807) (_ : name.length ≤ 9223372036854775807) (_ : inI value) :
    CallL Tryz.prog (.fn 3) [.agg [.i ca, .lst (tmC ta) ta.length 2], .agg [.i cb, .lst (tmC tb) tb.length 2], .lst (names.map .str) names.length 1, .lst (values.map .i) values.length 1, .str name, .i value] [] fun v _ => v = .bool true := by
  refine call_body r_law19_LengthsValues k_law19_LengthsValues (by simp) ?_
  simp [c_law19_LengthsValues]
  refine CallL_F law19_lives_ok (by simp) ?_
  simp
  refine CallL_F (kit_LightLen_ok ca ta la) (bors_self _ dats_lens) ?_
  cases hA : lightL ca ta with
  | false => simp
  | true =>
  simp
  refine CallL_F (kit_LightLen_ok cb tb lb) (bors_self _ dats_lens) ?_
  cases hB : lightL cb tb with
  | false => simp
  | true =>
  have qa : ∀ {c : Int} {t : List Tm}, lightL c t = true → (-1048576 ≤ c ∧ c ≤ 1048576) ∧ t.length ≤ 6 ∧ ∀ x ∈ t, -1048576 ≤ x.2 ∧ x.2 ≤ 1048576 := fun {c t} h => by
    simp only [lightL, Bool.and_eq_true, decide_eq_true_eq, List.all_eq_true] at h
    exact ⟨⟨h.2.2, h.2.1.2⟩, h.2.1.1, fun x hx => by have := h.1 x hx; simp only [tmOk, Bool.and_eq_true, decide_eq_true_eq] at this; exact ⟨this.2, this.1.2⟩⟩
  obtain ⟨ca1, la1, ta1⟩ := qa hA
  obtain ⟨cb1, lb1, tb1⟩ := qa hB
  by_cases n1 : 10 < (names.length : Int)
  · simp [n1]
  by_cases n2 : 10 < (values.length : Int)
  · simp [n1, n2]
  simp [n1, n2]
  refine CallL_F (lengths_Value_ok ca ta names values (by omega) (by omega) ta1 h1 h2) (bors_self _ (by simp [dats, LV.dat, tmC_dats, dats_strs, dats_ints])) ?_
  simp
  refine CallL_F (lengths_Value_ok cb tb names values (by omega) (by omega) tb1 h1 h2) (bors_self _ (by simp [dats, LV.dat, tmC_dats, dats_strs, dats_ints])) ?_
  simp
  refine ⟨by omega, by omega, by omega, by omega, CallL_F (lengths_Value_ok (ca + cb) (ta ++ tb) names values (by omega) (by simp; omega) (fun t ht => (List.mem_append.1 ht).elim (ta1 t) (tb1 t)) h1 h2)
    ⟨_, _, rfl, ⟨_, rfl, ⟨_, _, rfl, ⟨rfl, rfl⟩, ⟨_, _, rfl, ⟨tmC ta ++ tmC tb, ta.length + tb.length, 2, 2, by simp [tmC_app], rfl, dats_app (tmC_dats ta) (tmC_dats tb)⟩, rfl⟩⟩⟩, bors_self _ (by simp [dats, LV.dat, dats_strs, dats_ints])⟩ ?_⟩
  obtain ⟨both1, both2⟩ := valueS_both (c := ca) (d := cb) (a := ta) (b := tb) (names := names) (values := values)
  have bnd : ∀ {c : Int} {t : List Tm}, lightL c t = true → -9000000000000 ≤ (valueS c t names values).1 ∧ (valueS c t names values).1 ≤ 9000000000000 := fun {c t} h => by
    obtain ⟨q1, q2, q3⟩ := qa h
    unfold valueS
    split
    · dsimp only; omega
    · rename_i hb
      split
      · rename_i s hs
        have := sumT_le (fun v hv => by
          have := List.any_eq_false.1 (by simpa using (not_or.1 hb).2 : values.any badV = false) v hv
          simp [badV] at this
          omega) q3 hs
        dsimp only
        omega
      · dsimp only; omega
  have bA := bnd hA
  have bB := bnd hB
  have more : ∀ name value, 0 ≤ value → value ≤ 1048576 → (valueS ca ta names values).2 = 0 → valueS ca ta (names ++ [name]) (values ++ [value]) = ((valueS ca ta names values).1, 0) := fun name value => valueS_more
  generalize hVA : valueS ca ta names values = VA at *
  generalize hVB : valueS cb tb names values = VB at *
  generalize hVC : valueS (ca + cb) (ta ++ tb) names values = VC at *
  by_cases eA : VA.2 = 0
  case neg =>
    have eC : ¬ VC.2 = 0 := fun h => eA (both1.2 h).1
    simp [eA, eC]
  have last : ∀ (G : LHeap) (K : LV → LHeap → Prop) (p q kp kq sp sq : Nat), 0 ≤ value → value ≤ 1048576 → G[p]? = some (.dyn (names.map .str ++ [.str name]) (names.length + 1) 1 kp sp) → G[q]? = some (.dyn (values.map .i ++ [.i value]) (values.length + 1) 1 kq sq) →
      K (.tup [.i VA.1, .i 0]) G → CallL Tryz.prog (.fn 11) [.agg [.i ca, .lst (tmC ta) ta.length 2], .dy p kp, .dy q kq] G K := by
    intro G K p q kp kq sp sq v0 v1 hp hq k
    have hm := more name value v0 v1 eA
    have hc := lengths_Value_ok ca ta (names ++ [name]) (values ++ [value]) (by omega) (by omega) ta1 (by simp; omega) (by simp; omega)
    rw [hm] at hc
    refine CallL_F hc ?_ (by simpa using k)
    refine ⟨_, _, rfl, ⟨_, rfl, bors_self _ (by simp [dats, LV.dat, tmC_dats])⟩, _, _, rfl, ⟨_, _, _, _, ?_, hp, dats_app (dats_strs names) (by simp [dats, LV.dat])⟩, _, _, rfl, ⟨_, _, _, _, ?_, hq, dats_app (dats_ints values) (by simp [dats, LV.dat])⟩, rfl⟩
    · simp
    · simp
  have v01 : value < 0 ∨ 1048576 < value ∨ (0 ≤ value ∧ value ≤ 1048576 ∧ ¬ value < 0 ∧ ¬ 1048576 < value) := by omega
  by_cases eB : VB.2 = 0
  · have eC := both1.1 ⟨eA, eB⟩
    have eD := both2 eA eB
    rcases v01 with v0 | v1 | ⟨v0, v1, v2, v3⟩
    · simp [eA, eB, eC, eD, v0]
      omega
    · have v2 : ¬ value < 0 := by omega
      simp [eA, eB, eC, eD, v1, v2]
      omega
    · simp [eA, eB, eC, eD, v2, v3]
      refine ⟨by omega, by omega, by omega, by omega, by omega, last _ _ 4 6 2 2 2 2 v0 v1 rfl rfl ?_⟩
      simp
  · have eC : ¬ VC.2 = 0 := fun h => eB (both1.2 h).2
    rcases v01 with v0 | v1 | ⟨v0, v1, v2, v3⟩
    · simp [eA, eB, eC, v0]
    · have v2 : ¬ value < 0 := by omega
      simp [eA, eB, eC, v1, v2]
    · simp [eA, eB, eC, v2, v3]
      refine ⟨by omega, by omega, by omega, by omega, last _ _ 4 6 2 2 2 2 v0 v1 rfl rfl ?_⟩
      simp
end Go.Proofs.YtlmmcachokiabaaGreat
