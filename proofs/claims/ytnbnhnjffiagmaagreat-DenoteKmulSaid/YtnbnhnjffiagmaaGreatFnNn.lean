/- DenoteKmul, walked. -/
import Derived.Test.YtnbnhnjffiagmaaGreatFnNk
import Derived.Test.YtnbnhnjffiagmaaGreatSvG4
namespace Go.Proofs.YtnbnhnjffiagmaaGreat
open Go.Sv
set_option linter.unusedSimpArgs false
set_option maxRecDepth 10000
def c_kit_OwnNats : LC := (.seq (.ops [.z 2 (.move (.c .nilSl))]) (.seq (.ops [.m 5 0,.z 6 (.lenSl (.t 5)),.z 7 (.mkSl 1 [.nilSl] (.t 6) (.t 6)),.m 3 7]) (.seq (.seq (.ops [.z 4 (.move (.c (.i 0)))]) (.block 0 (.loop (.seq (.seq (.ops [.m 8 4,.m 9 0,.z 10 (.lenSl (.t 9)),.z 11 (.bin .lss false 3 (.t 8) (.t 10))]) (.cond (.t 11) .skip (.exit 0))) (.seq (.block 1 (.ops [.m 14 3,.m 15 4,.m 16 0,.m 17 4,.z 18 (.ixAddr 1 (.t 16) (.t 17)),.l 19 18,.z 20 (.callV (.c (.fn (.func 55) [] [])) [.t 19]),.z 21 (.ixAddr 1 (.t 14) (.t 15)),⟨none,none,.store 1 (.t 21) (.t 20)⟩])) (.ops [.m 12 4,.z 13 (.bin .add true 3 (.t 12) (.c (.i 1))),.m 4 13])))))) (.seq (.ops [.m 22 3,.m 2 22]) .ret))))
theorem r_kit_OwnNats : resFn Tryz.prog 22 = some ⟨23, c_kit_OwnNats.r, [.tmp 2]⟩ := by kernel_rfl
theorem k_kit_OwnNats : c_kit_OwnNats.ok = true := by kernel_rfl
def c_law20_DenoteKmul : LC := (.seq (.ops [.z 3 (.box (.t 0)),.z 6 (.move (.c (.bool false)))]) (.seq (.seq (.ops [.z 15 (.callV (.c (.fn (.func 9) [] [])) []),.z 16 (.un .not (.t 15))]) (.cond (.t 16) (.seq (.ops [.z 6 (.move (.c (.bool false)))]) .ret) .skip)) (.seq (.seq (.ops [.z 17 (.loadN 3 (.t 3)),.m 18 1,.z 19 (.callV (.c (.fn (.func 20) [] [])) [.t 17,.t 18]),.z 20 (.un .not (.t 19))]) (.cond (.t 20) (.seq (.ops [.z 6 (.move (.c (.bool true)))]) .ret) .skip)) (.seq (.ops [.z 22 (.loadN 3 (.t 3)),.m 23 1,.z 24 (.callV (.c (.fn (.func 11) [] [])) [.t 22,.t 23]),.m 21 24,.z 25 (.extract 0 (.t 21)),.z 26 (.extract 1 (.t 21)),.m 7 25,.m 8 26]) (.seq (.ops [.z 27 (.loadN 3 (.t 3)),.z 28 (.callV (.c (.fn (.func 35) [] [])) [.t 27]),.z 9 (.alloc [.nilSl,.nilSl,.nilSl]),⟨none,none,.store 3 (.t 9) (.t 28)⟩]) (.seq (.seq (.ops [.z 10 (.move (.c (.i 0)))]) (.block 0 (.loop (.seq (.seq (.ops [.m 29 10,.f 30 1 9,.l 31 30,.z 32 (.lenSl (.t 31)),.z 33 (.bin .lss false 3 (.t 29) (.t 32))]) (.cond (.t 33) .skip (.exit 0))) (.seq (.block 1 (.seq (.ops [.f 36 1 9,.l 37 36,.m 38 10,.z 39 (.ixAddr 7 (.t 37) (.t 38)),.f 40 0 39,.l 41 40,.z 42 (.bin .eql true 3 (.t 41) (.c (.i 6)))]) (.cond (.t 42) (.ops [.f 43 1 9,.l 44 43,.m 45 10,.z 46 (.ixAddr 7 (.t 44) (.t 45)),.f 47 0 46,⟨none,none,.store 1 (.t 47) (.c (.i 5))⟩]) .skip))) (.ops [.m 34 10,.z 35 (.bin .add true 3 (.t 34) (.c (.i 1))),.m 10 35])))))) (.seq (.ops [.m 48 1,.z 49 (.callV (.c (.fn (.func 22) [] [])) [.t 48]),.m 11 49]) (.seq (.seq (.ops [.z 12 (.move (.c (.i 0)))]) (.block 2 (.loop (.seq (.seq (.ops [.m 50 12,.m 51 11,.z 52 (.lenSl (.t 51)),.z 53 (.bin .lss false 3 (.t 50) (.t 52))]) (.cond (.t 53) .skip (.exit 2))) (.seq (.block 3 (.draw [(.m 56 11,[]),(.m 57 12,[]),(.m 58 11,[]),(.m 59 12,[]),(.z 60 (.ixAddr 1 (.t 58) (.t 59)),[]),(.l 61 60,[]),(.m 62 2,[]),(.z 63 (.callV (.c (.fn (.func 36) [] [])) [.t 62,.c (.i 5)]),[(.l 61 60,false)]),(.z 64 (.appZ 1 [(.u 0)] (.t 61) (.t 63)),[]),(.z 65 (.ixAddr 1 (.t 56) (.t 57)),[]),(⟨none,none,.store 1 (.t 65) (.t 64)⟩,[])])) (.ops [.m 54 12,.z 55 (.bin .add true 3 (.t 54) (.c (.i 1))),.m 12 55])))))) (.seq (.ops [.z 67 (.loadN 3 (.t 9)),.m 68 11,.z 69 (.callV (.c (.fn (.func 11) [] [])) [.t 67,.t 68]),.m 66 69,.z 70 (.extract 0 (.t 66)),.z 71 (.extract 1 (.t 66)),.m 13 70,.m 14 71]) (.seq (.seq (.ops [.z 72 (.loadN 3 (.t 3)),.z 73 (.callV (.c (.fn (.func 37) [] [])) [.t 72]),.z 74 (.bin .neq true 32 (.t 73) (.c (.i 0)))]) (.cond (.t 74) (.seq (.ops [.m 75 8,.z 76 (.bin .neq true 32 (.t 75) (.c (.i 0))),.m 6 76]) .ret) .skip)) (.seq (.ops [.m 77 8,.m 78 14,.z 79 (.bin .eql false 32 (.t 77) (.t 78)),.m 80 79,⟨some 81,(some (80,true)),.move (.t 7)⟩,⟨some 82,(some (80,true)),.move (.t 13)⟩,⟨some 83,(some (80,true)),.callV (.c (.fn (.func 25) [] [])) [.t 81,.t 82]⟩,.z 84 (.pick (.t 80) (.t 83) (.c (.bool false))),.m 6 84]) .ret)))))))))))
theorem r_law20_DenoteKmul : resFn Tryz.prog 6 = some ⟨85, c_law20_DenoteKmul.r, [.tmp 6]⟩ := by kernel_rfl
theorem k_law20_DenoteKmul : c_law20_DenoteKmul.ok = true := by kernel_rfl
theorem OwnNats_any {G : LHeap} {ins : List (List UInt64)} {K : LV → LHeap → Prop} (hn : ins.length ≤ 1000) (hi : ∀ x ∈ ins, x.length ≤ 1000)
  (k : ∀ G2 C st, (∀ q, q < G.length → G2[q]? = G[q]?) → G2[G.length]? = some (.dyn C ins.length 1 0 st) → C.length = ins.length → (∀ j, j < ins.length → C[j]? = some (.dy (G.length + 1 + j) 0) ∧ G2[G.length + 1 + j]? = some (.dyn ((ins.getD j []).map .u) (ins.getD j []).length 1 0 0)) → G2.length = G.length + 1 + ins.length → K (.dy G.length 0) G2) : CallL Tryz.prog (.fn 22) [LN ins] G K := by
 refine call_body r_kit_OwnNats k_kit_OwnNats (by simp) ?_
 simp [c_kit_OwnNats, LN]
 repeat (refine ⟨by omega, ?_⟩)
 have hrl : ∀ n, (repL [LV.nilSl] n).length = n := by
  intro n
  induction n with
  | zero => rfl
  | succ n ih => simp [repL, ih]
 refine loop_nx (fun ρ D G' N => ∃ (i : Nat) (C : List LV) (st : Nat), D = [] ∧ N + i = ins.length ∧ lk ρ 0 = .lst (ins.map LU) ins.length 1 ∧ lk ρ 3 = .dy G.length 0 ∧ lk ρ 4 = .i i ∧ G'.length = G.length + 1 + i ∧ (∀ q, q < G.length → G'[q]? = G[q]?) ∧ G'[G.length]? = some (.dyn C ins.length 1 0 st) ∧ C.length = ins.length ∧ ∀ j, j < i → C[j]? = some (.dy (G.length + 1 + j) 0) ∧ G'[G.length + 1 + j]? = some (.dyn ((ins.getD j []).map .u) (ins.getD j []).length 1 0 0)) (N := ins.length)
  ⟨0, repL [.nilSl] ins.length, 0, rfl, by omega, by simp, by simp, by simp, by simp, fun q hq => old1 hq, by simp, hrl _, fun j hj => by omega⟩ ?_
 rintro N ρ D G' ⟨i, C, st, rfl, hN, h0, h3, h4, hl, hf, hG, hC, hj⟩ Nx hNx
 by_cases g : i < ins.length
 ·have hxl := in_len hi i
  obtain ⟨x, hx⟩ : ∃ x, ins.getD i [] = x := ⟨_, rfl⟩
  have hx3 : ins[i] = x := by rw [← hx]; simp [g]
  rw [hx] at hxl
  simp [h0, h3, h4, g]
  refine CallL_S (kit_Own_ok x (by omega)) (by simp [hx3]) ?_
  have lG : G.length < G'.length := by omega
  have hc1 : layLV C i [.dy G'.length 0] = C.set i (.dy G'.length 0) := lay1 _ _ _ (by omega)
  simp [h0, h3, h4, g, ↓old1 lG, hG, hc1]
  refine ⟨by omega, by omega, hNx _ _ _ ⟨N - 1, by omega, i + 1, C.set i (.dy G'.length 0), st + 1, rfl, by omega, by simp [h0], by simp [h3], by simp, by simp; omega, fun q hq => ?_, ?_, by simp [hC], fun j hji => ?_⟩⟩
  ·rw [List.getElem?_set_ne (by omega), old1 (by omega)]; exact hf q hq
  ·rw [List.getElem?_set_self (by simp; omega)]
  ·by_cases e : i = j
   ·subst e
    refine ⟨by rw [List.getElem?_set_self (by omega), hl], ?_⟩
    rw [List.getElem?_set_ne (by omega), List.getElem?_append_right (by omega), show G.length + 1 + i - G'.length = 0 by omega, hx]; rfl
   ·obtain ⟨a1, a2⟩ := hj j (by omega)
    refine ⟨by rw [List.getElem?_set_ne e]; exact a1, ?_⟩
    rw [List.getElem?_set_ne (by omega), old1 (by omega)]; exact a2
 ·have hi2 : i = ins.length := by omega
  subst hi2
  simp [h0, h3, h4]
  exact k _ C st hf hG hC hj hl
theorem run_ownN {G : LHeap} {vs : List Vr} {os rs : List Ko} {X : List (List UInt64)} {C : List LV} {p q r L sL kp kq kr sp sq sr : Nat} {K : LV → LHeap → Prop} (hl1 : vs.length ≤ 9223372036854775807) (hi : ∀ x ∈ X, x.length ≤ 1000) (hp : G[p]? = some (.dyn (vsC vs) vs.length 3 kp sp)) (hq : G[q]? = some (.dyn (osC os) os.length 7 kq sq)) (hr : G[r]? = some (.dyn (osC rs) rs.length 7 kr sr))
  (n1 : p ≠ q) (n2 : p ≠ r) (n3 : q ≠ r) (m1 : p < L) (m2 : q < L) (m3 : r < L) (hL : G[L]? = some (.dyn C X.length 1 0 sL)) (hC : C.length = X.length) (hj : ∀ j, j < X.length → C[j]? = some (.dy (L + 1 + j) 1) ∧ ∃ s, G[L + 1 + j]? = some (.dyn ((X.getD j []).map .u) (X.getD j []).length 1 1 s))
  (k : ∀ G', G.length ≤ G'.length → (∀ x, x < L → x ≠ p → x ≠ q → x ≠ r → G'[x]? = G[x]?) → K (.tup [LN (runD vs os rs (X.map val)).1, .i (runD vs os rs (X.map val)).2]) G') : CallL Tryz.prog (.fn 11) [.agg [.dy p kp, .dy q kq, .dy r kr], .dy L 0] G K := by
 have hdd : dats [.agg (kerC vs os rs), LN X] = true := by simp [dats, LV.dat, kerC, vsC_dats, osC_dats, LN, LN_dats]
 refine CallL_fz3 hp hq hr n1 n2 n3 fun G1 l1 f1 => ?_
 refine melt_rows (X := X) (L := L) X.length 0 G1 C sL (by omega) (by rw [f1 L (by omega) (by omega) (by omega)]; exact hL) hC (fun j h => by omega) (fun j _ h2 => ?_) fun G2 s2 l2 f2 g2 => ?_
 ·obtain ⟨a1, s, a2⟩ := hj j h2
  exact ⟨a1, s, by rw [f1 _ (by omega) (by omega) (by omega)]; exact a2⟩
 refine CallL_fzG (args' := [.agg (kerC vs os rs), LN X]) g2 (fun c c' r hle hx ha => ?_) (CallL_V (Run_ok vs os rs X hl1 hi) hdd (k _ (by simp; omega) fun x x0 x1 x2 x3 => ?_))
 ·cases ha with
  | cons e es => cases es with
   | cons e2 es => exact .cons (e.mono hle) (.cons (hx _ e2) (es.mono hle))
 ·rw [List.getElem?_set_ne (by omega), f2 x x0, f1 x x1 x2 x3]
theorem law20_DenoteKmul_run (vs : List Vr) (os rs : List Ko) (ins : List (List UInt64)) (z : Int) (hl1 : vs.length ≤ 9223372036854775807) (_ : os.length ≤ 9223372036854775807) (_ : rs.length ≤ 9223372036854775807) (hn : ins.length ≤ 9223372036854775807)
  (_ : -9223372036854775808 ≤ z ∧ z < 9223372036854775808) : CallL Tryz.prog (.fn 6) [.agg (kerC vs os rs), LN ins, .i z] [] fun v _ => v = .bool true := by
 have hkd : dats (kerC vs os rs) = true := by simp [kerC, dats, LV.dat, vsC_dats, osC_dats]
 have hdd : dats [.agg (kerC vs os rs), LN ins] = true := by simp [dats, LV.dat, hkd, LN, LN_dats]
 have hk3 : (kerC vs os rs).length = 3 := rfl
 have hkt : (kerC vs os rs).take 3 = kerC vs os rs := rfl
 refine call_body r_law20_DenoteKmul k_law20_DenoteKmul (by simp) ?_
 simp [c_law20_DenoteKmul]
 refine CallL_F law20_lives_ok (by simp) ?_
 simp [hk3, hkt]
 refine CallL_F (law20_light_ok vs os rs ins hl1 hn) (bors_self _ hdd) ?_
 cases hL : lightD vs os rs ins with
 | false => simp
 | true =>
 obtain ⟨v1, v2, v3, v4, v5, v6⟩ := lightD_parts hL
 have hi : ∀ x ∈ ins, x.length ≤ 1000 := fun x hx => by have := v5 x hx; omega
 obtain ⟨pk, hpk, hpc⟩ := kit_Pick_ok z 5 (by omega)
 have hi2 : ∀ x ∈ ins.map (padZ pk), x.length ≤ 1000 := fun x hx => by
  obtain ⟨y, hy, rfl⟩ := List.mem_map.1 hx
  have := v5 y hy
  rw [padZ_len]; omega
 simp [hk3, hkt]
 refine CallL_V (Run_ok vs os rs ins hl1 hi) hdd ?_
 simp [hk3, hkt]
 refine OwnKern_any (by omega) (by omega) (by omega) fun G2 p hke hp g0 g1 g2 => ?_
 have h0 : G2[0]? = some (.cells (kerC vs os rs) 0) := hke.at (by simp)
 simp at hp
 have l2 : p + 2 < G2.length := (List.getElem?_eq_some_iff.1 g2).1
 simp
 refine loop_nx (fun ρ D G N => ∃ (i : Nat) (st : Nat), D = [] ∧ N + i = os.length ∧ lk ρ 1 = LN ins ∧ lk ρ 2 = .i z ∧ lk ρ 3 = .ptr 0 0 ∧ lk ρ 7 = LN (runD vs os rs (ins.map val)).1 ∧ lk ρ 8 = .i (runD vs os rs (ins.map val)).2 ∧ lk ρ 9 = .ptr G2.length 0 ∧ lk ρ 10 = .i i ∧ G.length = G2.length + 1 ∧ G[0]? = some (.cells (kerC vs os rs) 0) ∧ G[G2.length]? = some (.cells [.dy p 0, .dy (p + 1) 0, .dy (p + 2) 0] 1) ∧ G[p]? = some (.dyn (vsC vs) vs.length 3 0 0) ∧ G[p + 1]? = some (.dyn (osC (curK os i)) os.length 7 0 st) ∧ G[p + 2]? = some (.dyn (osC rs) rs.length 7 0 0)) (N := os.length)
  ⟨0, 0, rfl, by omega, by simp [LN], by simp, by simp, by simp [LN], by simp, by simp, by simp, by simp, by rw [old1 (by omega)]; exact h0, by simp, by rw [old1 (by omega)]; exact g0, by rw [old1 (by omega), curK_zero]; exact g1, by rw [old1 (by omega)]; exact g2⟩ ?_
 clear hke g0 g1 g2 h0
 rintro N ρ D G ⟨i, st, rfl, hN, h1, h2, h3, h7, h8, h9, h10, hGl, h0, hc, g0, g1, g2⟩ Nx hNx
 by_cases g : i < os.length
 ·have qk : (osC (curK os i))[i * 7]? = some (.i (go os i).kind) := by have := fm_at Ko.f_len (curK_at g) (j := 0) (by omega); simpa [osC, Ko.f] using this
  have hlen : i * 7 < (osC (curK os i)).length := (List.getElem?_eq_some_iff.1 qk).1
  by_cases k6 : (go os i).kind = 6
  ·simp [h1, h2, h3, h7, h8, h9, h10, hc, g1, g, nthL_at qk, k6, curK_six g k6]
   refine ⟨by omega, by omega, hNx _ _ _ ⟨N - 1, by omega, i + 1, st + 1, rfl, by omega, by simp [h1], by simp [h2], by simp [h3], by simp [h7], by simp [h8], by simp [h9], by simp, by simp; omega, ?_, ?_, ?_, ?_, ?_⟩⟩
   ·rw [List.getElem?_set_ne (by omega)]; exact h0
   ·rw [List.getElem?_set_ne (by omega)]; exact hc
   ·rw [List.getElem?_set_ne (by omega)]; exact g0
   ·rw [List.getElem?_set_self (by omega)]
   ·rw [List.getElem?_set_ne (by omega)]; exact g2
  ·simp [h1, h2, h3, h7, h8, h9, h10, hc, g1, g, nthL_at qk, k6]
   exact ⟨by omega, hNx _ _ _ ⟨N - 1, by omega, i + 1, st, rfl, by omega, by simp [h1], by simp [h2], by simp [h3], by simp [h7], by simp [h8], by simp [h9], by simp, by omega, h0, hc, g0, by rw [curK_not g k6]; exact g1, g2⟩⟩
 have hi3 : i = os.length := by omega
 subst hi3
 rw [curK_all] at g1
 simp [h1, h2, h3, h7, h8, h9, h10, hc, g1]
 refine OwnNats_any (by omega) hi fun G3 C st3 f3 gL hC hrows l3 => ?_
 have h03 := (f3 0 (by omega)).trans h0
 have hc3 := (f3 _ (by omega)).trans hc
 have g03 := (f3 p (by omega)).trans g0
 have g13 := (f3 (p + 1) (by omega)).trans g1
 have g23 := (f3 (p + 2) (by omega)).trans g2
 clear h0 hc g0 g1 g2 f3
 have hxg : ∀ j, j < ins.length → (ins.map (padZ pk)).getD j [] = padZ pk (ins.getD j []) := fun j hj => by simp [List.getD_eq_getElem?_getD, hj]
 generalize hLG : G.length = L at *
 clear hLG
 simp
 refine loop_nx (fun ρ D G N => ∃ (i : Nat) (C : List LV) (st : Nat), D = [] ∧ N + i = ins.length ∧ lk ρ 2 = .i z ∧ lk ρ 3 = .ptr 0 0 ∧ lk ρ 7 = LN (runD vs os rs (ins.map val)).1 ∧ lk ρ 8 = .i (runD vs os rs (ins.map val)).2 ∧ lk ρ 9 = .ptr G2.length 0 ∧ lk ρ 11 = .dy L 0 ∧ lk ρ 12 = .i i ∧ G.length = G3.length ∧ (∀ q, q < L → G[q]? = G3[q]?) ∧ G[L]? = some (.dyn C ins.length 1 0 st) ∧ C.length = ins.length ∧
   (∀ j, j < i → C[j]? = some (.dy (L + 1 + j) 1) ∧ ∃ s, G[L + 1 + j]? = some (.dyn ((padZ pk (ins.getD j [])).map .u) (padZ pk (ins.getD j [])).length 1 1 s)) ∧ ∀ j, i ≤ j → j < ins.length → C[j]? = some (.dy (L + 1 + j) 0) ∧ G[L + 1 + j]? = some (.dyn ((ins.getD j []).map .u) (ins.getD j []).length 1 0 0)) (N := ins.length)
  ⟨0, C, st3, rfl, by omega, by simp [h2], by simp [h3], by simp [h7], by simp [h8], by simp [h9], by simp, by simp, rfl, fun _ _ => rfl, gL, hC, fun j hj => by omega, fun j _ hj => hrows j hj⟩ ?_
 clear h2 h3 h7 h8 h9 gL hC hrows
 rintro N ρ D G' ⟨i, C, st, rfl, hN, h2, h3, h7, h8, h9, h11, h12, hGl', hfr, gL, hC, hlo, hhi⟩ Nx hNx
 by_cases g : i < ins.length
 ·obtain ⟨c1, r1⟩ := hhi i (Nat.le_refl _) g
  have hxl := in_len hi i
  obtain ⟨x, hx⟩ : ∃ x, ins.getD i [] = x := ⟨_, rfl⟩
  rw [hx] at r1 hxl
  have hpad : x.map LV.u ++ repL [LV.u 0] pk = (padZ pk x).map .u := by rw [repU, ← List.map_append]; rfl
  have hrl : L + 1 + i < G'.length := (List.getElem?_eq_some_iff.1 r1).1
  have hset : layLV C i [.dy (L + 1 + i) 1] = C.set i (.dy (L + 1 + i) 1) := lay1 _ _ _ (by omega)
  have sL : ∀ y, (G'.set (L + 1 + i) y)[L]? = some (.dyn C ins.length 1 0 st) := fun y => by rw [List.getElem?_set_ne (by omega)]; exact gL
  simp [h2, h11, h12, gL, g, nthL_at c1]
  refine CallL_F hpc (by simp) ?_
  simp [h2, h11, h12, gL, g, nthL_at c1, r1, hpad, ↓sL, hset]
  have hpl : x.length + pk = (padZ pk x).length := (padZ_len pk x).symm
  rw [hpl]
  refine ⟨by omega, by omega, by omega, by omega, hNx _ _ _ ⟨N - 1, by omega, i + 1, C.set i (.dy (L + 1 + i) 1), st + 1, rfl, by omega, by simp [h2], by simp [h3], by simp [h7], by simp [h8], by simp [h9], by simp [h11], by simp, by simpa using hGl', fun q hq => ?_, List.getElem?_set_self (by simp; omega), by simp [hC], fun j hj => ?_, fun j hj1 hj2 => ?_⟩⟩
  ·rw [List.getElem?_set_ne (by omega), List.getElem?_set_ne (by omega)]; exact hfr q hq
  ·rw [List.getElem?_set_ne (show L ≠ L + 1 + j by omega)]
   by_cases e : i = j
   ·subst e
    rw [hx]
    exact ⟨List.getElem?_set_self (by omega), 1, List.getElem?_set_self hrl⟩
   ·obtain ⟨a1, s1, a2⟩ := hlo j (by omega)
    exact ⟨by rw [List.getElem?_set_ne e]; exact a1, s1, by rw [List.getElem?_set_ne (by omega)]; exact a2⟩
  ·obtain ⟨a1, a2⟩ := hhi j (by omega) hj2
   exact ⟨by rw [List.getElem?_set_ne (by omega)]; exact a1, by rw [List.getElem?_set_ne (by omega), List.getElem?_set_ne (by omega)]; exact a2⟩
 ·have hi4 : i = ins.length := by omega
  subst hi4
  have hc4 := (hfr G2.length (by omega)).trans hc3
  have g04 := (hfr p (by omega)).trans g03
  have g14 := (hfr (p + 1) (by omega)).trans g13
  have g24 := (hfr (p + 2) (by omega)).trans g23
  have h04 := (hfr 0 (by omega)).trans h03
  simp [h2, h3, h7, h8, h9, h11, h12, gL, hc4]
  refine run_ownN (vs := vs) (os := os.map unK) (rs := rs) (X := ins.map (padZ pk)) (C := C) hl1 hi2 g04 (by rw [List.length_map]; exact g14) g24 (by omega) (by omega) (by omega) (by omega) (by omega) (by omega) (by rw [List.length_map]; exact gL) (by rw [List.length_map]; exact hC) (fun j hj => ?_) fun G5 l5 f5 => ?_
  ·rw [List.length_map] at hj
   obtain ⟨a1, s, a2⟩ := hlo j hj
   exact ⟨a1, s, by rw [hxg j hj]; exact a2⟩
  have h05 := (f5 0 (by omega) (by omega) (by omega) (by omega)).trans h04
  rw [padZ_vals]
  simp [h05, hk3, hkt, h3, h7, h8, LN]
  refine CallL_F (ref19_Check_ok vs os rs hl1) (bors_self _ (by simp [dats, LV.dat, hkd])) ?_
  cases hc : chkB vs os rs with
  | false =>
   have hE : (runD vs os rs (ins.map val)).2 = 2 := by simp [runD, fitD, hc]
   simp [chkE, hc, h3, h7, h8, hE, LN]
  | true =>
   rw [run_map hc]
   have hR := runs_len (vs := vs) (os := os) (rs := rs) (ns := ins.map val) (by omega)
   simp [chkE, hc, h3, h7, h8, LN]
   refine same_runs hR hR ?_
   simp
end Go.Proofs.YtnbnhnjffiagmaaGreat
