/- Light sources: walked. -/
import Derived.Test.YtcbbilifblbblaaSvG4
import Derived.Test.YtcbbilifblbblaaFnTk
namespace Go.Proofs.Ytcbbilifblbblaa
open Go.Sv
set_option linter.unusedSimpArgs false
set_option linter.unusedVariables false
set_option maxRecDepth 10000
def c_kit_LightLen : LC := (.seq (.ops [.z 1 (.box (.t 0)),.z 2 (.move (.c (.bool false)))]) (.seq (.seq (.ops [.z 3 (.move (.c (.i 0)))]) (.block 0 (.loop (.seq (.seq (.ops [.m 4 3,.f 5 1 1,.l 6 5,.z 7 (.lenSl (.t 6)),.z 8 (.bin .lss false 3 (.t 4) (.t 7))]) (.cond (.t 8) .skip (.exit 0))) (.seq (.block 1 (.seq (.ops [.f 11 1 1,.l 12 11,.m 13 3,.z 14 (.ixAddr 2 (.t 12) (.t 13)),.f 15 0 14,.l 16 15,.z 17 (.lenStr (.t 16)),.z 18 (.bin .gtr true 3 (.t 17) (.c (.i 20))),.m 19 18,⟨some 20,(some (19,false)),.fieldAddr 1 (.t 1)⟩,⟨some 21,(some (19,false)),.load1 (.t 20)⟩,⟨some 22,(some (19,false)),.move (.t 3)⟩,⟨some 23,(some (19,false)),.ixAddr 2 (.t 21) (.t 22)⟩,⟨some 24,(some (19,false)),.fieldAddr 1 (.t 23)⟩,⟨some 25,(some (19,false)),.load1 (.t 24)⟩,⟨some 26,(some (19,false)),.bin .gtr true 3 (.t 25) (.c (.i 1048576))⟩,.z 27 (.pick (.t 19) (.c (.bool true)) (.t 26)),.m 28 27,⟨some 29,(some (28,false)),.fieldAddr 1 (.t 1)⟩,⟨some 30,(some (28,false)),.load1 (.t 29)⟩,⟨some 31,(some (28,false)),.move (.t 3)⟩,⟨some 32,(some (28,false)),.ixAddr 2 (.t 30) (.t 31)⟩,⟨some 33,(some (28,false)),.fieldAddr 1 (.t 32)⟩,⟨some 34,(some (28,false)),.load1 (.t 33)⟩,⟨some 35,(some (28,false)),.bin .lss true 3 (.t 34) (.c (.i (-1048576)))⟩,.z 36 (.pick (.t 28) (.c (.bool true)) (.t 35))]) (.cond (.t 36) (.seq (.ops [.z 2 (.move (.c (.bool false)))]) .ret) .skip))) (.ops [.m 9 3,.z 10 (.bin .add true 3 (.t 9) (.c (.i 1))),.m 3 10])))))) (.seq (.ops [.f 37 1 1,.l 38 37,.z 39 (.lenSl (.t 38)),.z 40 (.bin .leq true 3 (.t 39) (.c (.i 6))),.m 41 40,⟨some 42,(some (41,true)),.fieldAddr 0 (.t 1)⟩,⟨some 43,(some (41,true)),.load1 (.t 42)⟩,⟨some 44,(some (41,true)),.bin .leq true 3 (.t 43) (.c (.i 1048576))⟩,.z 45 (.pick (.t 41) (.t 44) (.c (.bool false))),.m 46 45,⟨some 47,(some (46,true)),.fieldAddr 0 (.t 1)⟩,⟨some 48,(some (46,true)),.load1 (.t 47)⟩,⟨some 49,(some (46,true)),.bin .geq true 3 (.t 48) (.c (.i (-1048576)))⟩,.z 50 (.pick (.t 46) (.t 49) (.c (.bool false))),.m 2 50]) .ret)))
theorem r_kit_LightLen : resFn Try.prog 15 = some ⟨51, c_kit_LightLen.r, [.tmp 2]⟩ := by kernel_rfl
theorem k_kit_LightLen : c_kit_LightLen.ok = true := by kernel_rfl
def c_kit_lightNames : LC := (.seq (.ops [.z 2 (.move (.c (.bool false)))]) (.seq (.seq (.ops [.z 3 (.move (.c (.i 0)))]) (.block 0 (.loop (.seq (.seq (.ops [.m 4 3,.m 5 0,.z 6 (.lenSl (.t 5)),.z 7 (.bin .lss false 3 (.t 4) (.t 6))]) (.cond (.t 7) .skip (.exit 0))) (.seq (.block 1 (.seq (.ops [.m 10 0,.m 11 3,.z 12 (.ixAddr 1 (.t 10) (.t 11)),.l 13 12,.z 14 (.lenStr (.t 13)),.z 15 (.bin .gtr true 3 (.t 14) (.c (.i 20)))]) (.cond (.t 15) (.seq (.ops [.z 2 (.move (.c (.bool false)))]) .ret) .skip))) (.ops [.m 8 3,.z 9 (.bin .add true 3 (.t 8) (.c (.i 1))),.m 3 9])))))) (.seq (.ops [.m 16 0,.z 17 (.lenSl (.t 16)),.z 18 (.bin .leq true 3 (.t 17) (.c (.i 14))),.m 2 18]) .ret)))
theorem r_kit_lightNames : resFn Try.prog 14 = some ⟨19, c_kit_lightNames.r, [.tmp 2]⟩ := by kernel_rfl
theorem k_kit_lightNames : c_kit_lightNames.ok = true := by kernel_rfl
def c_kit_lightLens : LC := (.seq (.ops [.z 2 (.move (.c (.bool false)))]) (.seq (.seq (.ops [.z 3 (.move (.c (.i 0)))]) (.block 0 (.loop (.seq (.seq (.ops [.m 4 3,.m 5 0,.z 6 (.lenSl (.t 5)),.z 7 (.bin .lss false 3 (.t 4) (.t 6))]) (.cond (.t 7) .skip (.exit 0))) (.seq (.block 1 (.seq (.ops [.m 10 0,.m 11 3,.z 12 (.ixAddr 2 (.t 10) (.t 11)),.z 13 (.loadN 2 (.t 12)),.z 14 (.callV (.c (.fn (.func 15) [] [])) [.t 13]),.z 15 (.un .not (.t 14))]) (.cond (.t 15) (.seq (.ops [.z 2 (.move (.c (.bool false)))]) .ret) .skip))) (.ops [.m 8 3,.z 9 (.bin .add true 3 (.t 8) (.c (.i 1))),.m 3 9])))))) (.seq (.ops [.m 16 0,.z 17 (.lenSl (.t 16)),.z 18 (.bin .leq true 3 (.t 17) (.c (.i 14))),.m 2 18]) .ret)))
theorem r_kit_lightLens : resFn Try.prog 26 = some ⟨19, c_kit_lightLens.r, [.tmp 2]⟩ := by kernel_rfl
theorem k_kit_lightLens : c_kit_lightLens.ok = true := by kernel_rfl
def c_kit_statements : LC := (.seq (.ops [.z 6 (.move (.c (.i 0)))]) (.seq (.ops [.m 10 0,.z 11 (.lenSl (.t 10)),.m 7 11]) (.seq (.seq (.ops [.m 12 7,.m 13 1,.z 14 (.bin .gtr false 3 (.t 12) (.t 13)),.m 15 14,⟨some 16,(some (15,false)),.move (.t 2)⟩,⟨some 17,(some (15,false)),.bin .lss true 3 (.t 16) (.c (.i 0))⟩,.z 18 (.pick (.t 15) (.c (.bool true)) (.t 17))]) (.cond (.t 18) (.seq (.ops [.m 19 1,.z 20 (.bin .add true 3 (.t 19) (.c (.i 1))),.m 6 20]) .ret) .skip)) (.seq (.seq (.ops [.z 8 (.move (.c (.i 0)))]) (.block 0 (.loop (.seq (.seq (.ops [.m 21 8,.m 22 0,.z 23 (.lenSl (.t 22)),.z 24 (.bin .lss false 3 (.t 21) (.t 23))]) (.cond (.t 24) .skip (.exit 0))) (.seq (.block 1 (.seq (.ops [.m 27 0,.m 28 8,.z 29 (.ixAddr 9 (.t 27) (.t 28)),.z 30 (.loadN 9 (.t 29)),.z 9 (.alloc [(.i 0),(.str []),(.i 0),.nilSl,(.str []),.nilSl,.nilSl,.nilSl,.nilSl]),⟨none,none,.store 9 (.t 9) (.t 30)⟩]) (.seq (.seq (.ops [.f 31 1 9,.l 32 31,.z 33 (.lenStr (.t 32)),.z 34 (.bin .gtr true 3 (.t 33) (.c (.i 20))),.m 35 34,⟨some 36,(some (35,false)),.fieldAddr 2 (.t 9)⟩,⟨some 37,(some (35,false)),.loadN 2 (.t 36)⟩,⟨some 38,(some (35,false)),.callV (.c (.fn (.func 15) [] [])) [.t 37]⟩,⟨some 39,(some (35,false)),.un .not (.t 38)⟩,.z 40 (.pick (.t 35) (.c (.bool true)) (.t 39)),.m 41 40,⟨some 42,(some (41,false)),.fieldAddr 4 (.t 9)⟩,⟨some 43,(some (41,false)),.fieldAddr 1 (.t 42)⟩,⟨some 44,(some (41,false)),.load1 (.t 43)⟩,⟨some 45,(some (41,false)),.lenSl (.t 44)⟩,⟨some 46,(some (41,false)),.bin .gtr true 3 (.t 45) (.c (.i 8))⟩,.z 47 (.pick (.t 41) (.c (.bool true)) (.t 46)),.m 48 47,⟨some 49,(some (48,false)),.fieldAddr 6 (.t 9)⟩,⟨some 50,(some (48,false)),.load1 (.t 49)⟩,⟨some 51,(some (48,false)),.callV (.c (.fn (.func 14) [] [])) [.t 50]⟩,⟨some 52,(some (48,false)),.un .not (.t 51)⟩,.z 53 (.pick (.t 48) (.c (.bool true)) (.t 52)),.m 54 53,⟨some 55,(some (54,false)),.fieldAddr 7 (.t 9)⟩,⟨some 56,(some (54,false)),.load1 (.t 55)⟩,⟨some 57,(some (54,false)),.callV (.c (.fn (.func 26) [] [])) [.t 56]⟩,⟨some 58,(some (54,false)),.un .not (.t 57)⟩,.z 59 (.pick (.t 54) (.c (.bool true)) (.t 58))]) (.cond (.t 59) (.seq (.ops [.m 60 1,.z 61 (.bin .add true 3 (.t 60) (.c (.i 1))),.m 6 61]) .ret) .skip)) (.seq (.ops [.m 62 7,.f 63 8 9,.l 64 63,.m 65 1,.m 66 2,.z 67 (.bin .sub true 3 (.t 66) (.c (.i 1))),.z 68 (.callV (.c (.fn (.func 16) [] [])) [.t 64,.t 65,.t 67]),.z 69 (.bin .add false 3 (.t 62) (.t 68)),.m 7 69]) (.seq (.ops [.m 70 7,.m 71 1,.z 72 (.bin .gtr false 3 (.t 70) (.t 71))]) (.cond (.t 72) (.seq (.ops [.m 73 1,.z 74 (.bin .add true 3 (.t 73) (.c (.i 1))),.m 6 74]) .ret) .skip)))))) (.ops [.m 25 8,.z 26 (.bin .add true 3 (.t 25) (.c (.i 1))),.m 8 26])))))) (.seq (.ops [.m 75 7,.m 6 75]) .ret)))))
theorem r_kit_statements : resFn Try.prog 16 = some ⟨76, c_kit_statements.r, [.tmp 6]⟩ := by kernel_rfl
theorem k_kit_statements : c_kit_statements.ok = true := by kernel_rfl
def c_kit_LightProcs : LC := (.seq (.ops [.z 2 (.move (.c (.bool false)))]) (.seq (.seq (.ops [.m 7 0,.z 8 (.lenSl (.t 7)),.z 9 (.bin .gtr true 3 (.t 8) (.c (.i 5)))]) (.cond (.t 9) (.seq (.ops [.z 2 (.move (.c (.bool false)))]) .ret) .skip)) (.seq (.ops [.z 3 (.move (.c (.i 0)))]) (.seq (.seq (.ops [.z 4 (.move (.c (.i 0)))]) (.block 0 (.loop (.seq (.seq (.ops [.m 10 4,.m 11 0,.z 12 (.lenSl (.t 11)),.z 13 (.bin .lss false 3 (.t 10) (.t 12))]) (.cond (.t 13) .skip (.exit 0))) (.seq (.block 1 (.seq (.ops [.m 16 0,.m 17 4,.z 18 (.ixAddr 6 (.t 16) (.t 17)),.z 19 (.loadN 6 (.t 18)),.z 5 (.alloc [(.str []),.nilSl,.nilSl,.nilSl,.nilSl,.nilSl]),⟨none,none,.store 6 (.t 5) (.t 19)⟩]) (.seq (.seq (.ops [.f 20 0 5,.l 21 20,.z 22 (.lenStr (.t 21)),.z 23 (.bin .gtr true 3 (.t 22) (.c (.i 20))),.m 24 23,⟨some 25,(some (24,false)),.fieldAddr 1 (.t 5)⟩,⟨some 26,(some (24,false)),.load1 (.t 25)⟩,⟨some 27,(some (24,false)),.callV (.c (.fn (.func 14) [] [])) [.t 26]⟩,⟨some 28,(some (24,false)),.un .not (.t 27)⟩,.z 29 (.pick (.t 24) (.c (.bool true)) (.t 28)),.m 30 29,⟨some 31,(some (30,false)),.fieldAddr 2 (.t 5)⟩,⟨some 32,(some (30,false)),.load1 (.t 31)⟩,⟨some 33,(some (30,false)),.lenSl (.t 32)⟩,⟨some 34,(some (30,false)),.bin .gtr true 3 (.t 33) (.c (.i 14))⟩,.z 35 (.pick (.t 30) (.c (.bool true)) (.t 34)),.m 36 35,⟨some 37,(some (36,false)),.fieldAddr 3 (.t 5)⟩,⟨some 38,(some (36,false)),.load1 (.t 37)⟩,⟨some 39,(some (36,false)),.lenSl (.t 38)⟩,⟨some 40,(some (36,false)),.bin .gtr true 3 (.t 39) (.c (.i 10))⟩,.z 41 (.pick (.t 36) (.c (.bool true)) (.t 40)),.m 42 41,⟨some 43,(some (42,false)),.fieldAddr 4 (.t 5)⟩,⟨some 44,(some (42,false)),.load1 (.t 43)⟩,⟨some 45,(some (42,false)),.lenSl (.t 44)⟩,⟨some 46,(some (42,false)),.bin .gtr true 3 (.t 45) (.c (.i 10))⟩,.z 47 (.pick (.t 42) (.c (.bool true)) (.t 46))]) (.cond (.t 47) (.seq (.ops [.z 2 (.move (.c (.bool false)))]) .ret) .skip)) (.seq (.seq (.ops [.z 6 (.move (.c (.i 0)))]) (.block 2 (.loop (.seq (.seq (.ops [.m 48 6,.f 49 2 5,.l 50 49,.z 51 (.lenSl (.t 50)),.z 52 (.bin .lss false 3 (.t 48) (.t 51))]) (.cond (.t 52) .skip (.exit 2))) (.seq (.block 3 (.seq (.ops [.f 55 2 5,.l 56 55,.m 57 6,.z 58 (.ixAddr 4 (.t 56) (.t 57)),.f 59 2 58,.z 60 (.loadN 2 (.t 59)),.z 61 (.callV (.c (.fn (.func 15) [] [])) [.t 60]),.z 62 (.un .not (.t 61))]) (.cond (.t 62) (.seq (.ops [.z 2 (.move (.c (.bool false)))]) .ret) .skip))) (.ops [.m 53 6,.z 54 (.bin .add true 3 (.t 53) (.c (.i 1))),.m 6 54])))))) (.ops [.m 63 3,.f 64 5 5,.l 65 64,.z 66 (.callV (.c (.fn (.func 16) [] [])) [.t 65,.c (.i 40),.c (.i 6)]),.z 67 (.bin .add false 3 (.t 63) (.t 66)),.m 3 67]))))) (.ops [.m 14 4,.z 15 (.bin .add true 3 (.t 14) (.c (.i 1))),.m 4 15])))))) (.seq (.ops [.m 68 3,.z 69 (.bin .leq true 3 (.t 68) (.c (.i 40))),.m 2 69]) .ret)))))
theorem r_kit_LightProcs : resFn Try.prog 7 = some ⟨70, c_kit_LightProcs.r, [.tmp 2]⟩ := by kernel_rfl
theorem k_kit_LightProcs : c_kit_LightProcs.ok = true := by kernel_rfl
theorem LightLen_any (c : Int) (l : List Tm) (hl : l.length ≤ 9223372036854775807) : FnS Try.prog 15 [.agg [.i c, .lst (tmC l) l.length 2]] (.bool (lightL c l)) [] := by
 refine FnS.val rfl (call_body r_kit_LightLen k_kit_LightLen (by simp) ?_)
 simp [c_kit_LightLen]
 refine loop_nx (fun ρ D G N => ∃ i : Nat, D = [] ∧ G = [.cells [.i c, .lst (tmC l) l.length 2] 0] ∧ N + i = l.length ∧ lk ρ 1 = .ptr 0 0 ∧ lk ρ 3 = .i i ∧ ∀ j t, j < i → l[j]? = some t → tmOk t = true) (N := l.length) ⟨0, by simp⟩ ?_
 rintro N ρ D G ⟨i, rfl, rfl, hN, h1, h3, hn⟩ Nx hNx
 by_cases hi : l.length ≤ i
 ·have g : ¬ i < l.length := by omega
  have ha : l.all tmOk = true := List.all_eq_true.2 fun t ht => by
   obtain ⟨j, hj, rfl⟩ := List.mem_iff_getElem.1 ht
   exact hn j _ (by omega) (List.getElem?_eq_getElem _)
  by_cases g1 : (l.length : Int) ≤ 6 <;> by_cases g2 : c ≤ 1048576 <;> by_cases g3 : -1048576 ≤ c <;> simp [h1, h3, g, g1, g2, g3, lightL, ha] <;> omega
 ·have g : i < l.length := by omega
  have hg := List.getElem?_eq_getElem g
  have q0 : (tmC l)[i * 2]? = some (.str l[i].1) := by rw [tm_at0, hg]; rfl
  have q1 : (tmC l)[i * 2 + 1]? = some (.i l[i].2) := by rw [tm_at1, hg]; rfl
  have bad : tmOk l[i] = false → lightL c l = false := fun h => by
   have : l.all tmOk = false := List.all_eq_false.2 ⟨_, List.getElem_mem g, by simp [h]⟩
   simp [lightL, this]
  have good : tmOk l[i] = true → ∀ j t, j < i + 1 → l[j]? = some t → tmOk t = true := fun h j t hj ht => by
   by_cases e : j = i
   ·subst e; rw [hg] at ht; cases ht; exact h
   ·exact hn j t (by omega) ht
  have hq : i * 2 + 1 < (tmC l).length := by rw [tmC_length]; omega
  by_cases t1 : 20 < (l[i].1.length : Int)
  ·simp [h1, h3, g]
   simp [nthL_at q0, nthL_at q1, h1, h3, g, t1]
   exact bad (by simp [tmOk]; omega)
  by_cases t2 : 1048576 < l[i].2
  ·simp [h1, h3, g]
   simp [nthL_at q0, nthL_at q1, h1, h3, g, t1, t2]
   exact bad (by simp [tmOk]; omega)
  by_cases t3 : l[i].2 < -1048576
  ·simp [h1, h3, g]
   simp [nthL_at q0, nthL_at q1, h1, h3, g, t1, t2, t3]
   exact bad (by simp [tmOk]; omega)
  simp [h1, h3, g]
  simp [nthL_at q0, nthL_at q1, h1, h3, g, t1, t2, t3]
  exact ⟨by omega, hNx _ _ _ ⟨N - 1, by omega, i + 1, rfl, rfl, by omega, by simp [h1], by simp, good (by simp [tmOk]; omega)⟩⟩
theorem lightNames_ok (l : List Str) (hl : l.length ≤ 9223372036854775807) : FnV Try.prog 14 [.lst (strC l) l.length 1] (.bool (nmsE l)) := by
 refine FnV.mk rfl (call_body r_kit_lightNames k_kit_lightNames (by simp) ?_)
 simp [c_kit_lightNames]
 refine loop_nx (fun ρ D G N => ∃ i : Nat, D = [] ∧ N + i = l.length ∧ lk ρ 0 = .lst (strC l) l.length 1 ∧ lk ρ 3 = .i i ∧ ∀ j t, j < i → l[j]? = some t → decide (t.length ≤ 20) = true) (N := l.length) ⟨0, by simp⟩ ?_
 rintro N ρ D G ⟨i, rfl, hN, h0, h3, hn⟩ Nx hNx
 by_cases g : i < l.length
 ·have hg := List.getElem?_eq_getElem g
  have qs : (strC l)[i]? = some (.str l[i]) := map_at (f := LV.str) hg
  have hqs : i < (strC l).length := by simp [strC]; omega
  by_cases t1 : 20 < (l[i].length : Int)
  ·have : nmsE l = false := by
    have : (l.all fun n => decide (n.length ≤ 20)) = false := List.all_eq_false.2 ⟨_, List.getElem_mem g, by simp; omega⟩
    simp [nmsE, this]
   rw [this]
   simp [h0, h3, g, nthL_at qs, hqs, t1, borR, bor, LV.dat]
  ·simp [h0, h3, g, nthL_at qs, hqs, t1]
   refine ⟨by omega, hNx _ _ _ ⟨N - 1, by omega, i + 1, rfl, by omega, by simp [h0], by simp, fun j t hj ht => ?_⟩⟩
   by_cases e : j = i
   ·subst e; rw [hg] at ht; cases ht; simp; omega
   ·exact hn j t (by omega) ht
 ·have ha : (l.all fun n => decide (n.length ≤ 20)) = true := List.all_eq_true.2 fun t ht => by
   obtain ⟨j, hj, rfl⟩ := List.mem_iff_getElem.1 ht
   exact hn j _ (by omega) (List.getElem?_eq_getElem _)
  have : nmsE l = decide (l.length ≤ 14) := by rw [nmsE, ha]; simp
  rw [this]
  by_cases t1 : (l.length : Int) ≤ 14
  ·simp [h0, h3, g, t1, borR, bor, LV.dat]; omega
  ·simp [h0, h3, g, t1, borR, bor, LV.dat]; omega
theorem lightLens_ok (l : List LenT) (hl : okL LenT.ok l) : FnV Try.prog 26 [.lst (lenC l) l.length 2] (.bool (lnsE l)) := by
 refine FnV.mk rfl (call_body r_kit_lightLens k_kit_lightLens (by simp) ?_)
 have hll := hl.1
 simp [c_kit_lightLens]
 refine loop_nx (fun ρ D G N => ∃ i : Nat, D = [] ∧ N + i = l.length ∧ lk ρ 0 = .lst (lenC l) l.length 2 ∧ lk ρ 3 = .i i ∧ ∀ j t, j < i → l[j]? = some t → lightL t.c t.ts = true) (N := l.length) ⟨0, by simp⟩ ?_
 rintro N ρ D G ⟨i, rfl, hN, h0, h3, hn⟩ Nx hNx
 by_cases g : i < l.length
 ·have hg := List.getElem?_eq_getElem g
  have qs : ((lenC l).drop (i * 2)).take 2 = l[i].f := fm_take LenT.f_len hg
  have hqs : i * 2 + 2 ≤ (lenC l).length := fm_lt LenT.f_len g
  have hok := hl.2 _ (List.getElem_mem g)
  simp [h0, h3, g, qs, hqs, LenT.f]
  refine CallL_F (LightLen_any l[i].c l[i].ts hok.2.1) (bors_self _ (by simp [dats, LV.dat, tmC_dats'])) ?_
  cases t1 : lightL l[i].c l[i].ts with
  | false =>
   have : lnsE l = false := by
    have : (l.all fun l => lightL l.c l.ts) = false := List.all_eq_false.2 ⟨_, List.getElem_mem g, by simp [t1]⟩
    simp [lnsE, this]
   rw [this]
   simp [borR, bor, LV.dat]
  | true =>
   simp [h3]
   refine ⟨by omega, hNx _ _ _ ⟨N - 1, by omega, i + 1, rfl, by omega, by simp [h0], by simp, fun j t hj ht => ?_⟩⟩
   by_cases e : j = i
   ·subst e; rw [hg] at ht; cases ht; exact t1
   ·exact hn j t (by omega) ht
 ·have ha : (l.all fun l => lightL l.c l.ts) = true := List.all_eq_true.2 fun t ht => by
   obtain ⟨j, hj, rfl⟩ := List.mem_iff_getElem.1 ht
   exact hn j _ (by omega) (List.getElem?_eq_getElem _)
  have : lnsE l = decide (l.length ≤ 14) := by rw [lnsE, ha]; simp
  rw [this]
  by_cases t1 : (l.length : Int) ≤ 14
  ·simp [h0, h3, g, t1, borR, bor, LV.dat]; omega
  ·simp [h0, h3, g, t1, borR, bor, LV.dat]; omega
theorem statements_ok (most : Int) (hm0 : 0 ≤ most) (hm1 : most ≤ 1000000) : ∀ (c : Nat) (l : List Stt), cntL l = c → okL Stt.ok l → ∀ deep : Int, -1 ≤ deep → deep ≤ 1000000 → FnV Try.prog 16 [.lst (stC l) l.length 9, .i most, .i deep] (.i (stN most deep l)) := by
 intro c
 induction c using Nat.strongRecOn with
 | _ c ih =>
  intro l hc hok deep hd0 hd1
  refine FnV.mk rfl (call_body r_kit_statements k_kit_statements (by simp) ?_)
  have hrow : stC l = l.flatMap Stt.f := stC_eq l
  have hll := hok.1
  by_cases c1 : most < l.length ∨ deep < 0
  ·have : stN most deep l = most + 1 := by rw [stN, if_pos c1]
   rw [this]
   by_cases c2 : most < l.length
   ·simp [c_kit_statements, c2, borR, bor, LV.dat]; omega
   ·have c3 : deep < 0 := c1.resolve_left c2
    simp [c_kit_statements, c2, c3, borR, bor, LV.dat]; omega
  have c2 : ¬ most < l.length := fun h => c1 (.inl h)
  have c3 : ¬ deep < 0 := fun h => c1 (.inr h)
  have hst : stN most deep l = stG most (l.drop 0) deep l.length := by rw [stN, if_neg c1]; rfl
  rw [hst]
  simp [c_kit_statements, c2, c3]
  refine loop_nx (fun ρ D G N => ∃ (i : Nat) (n : Int), D = [] ∧ N + i = l.length ∧ lk ρ 0 = .lst (stC l) l.length 9 ∧ lk ρ 1 = .i most ∧ lk ρ 2 = .i deep ∧ lk ρ 8 = .i i ∧ lk ρ 7 = .i n ∧ 0 ≤ n ∧ n ≤ most ∧ stG most (l.drop i) deep n = stG most l deep l.length) (N := l.length) ⟨0, l.length, rfl, by omega, by simp, by simp, by simp, by simp, by simp, by omega, by omega, by simp⟩ ?_
  rintro N ρ D G ⟨i, n, rfl, hN, h0, h1, h2, h8, h7, hn0, hn1, hgo⟩ Nx hNx
  by_cases gi : i < l.length
  case neg =>
   rw [List.drop_of_length_le (by omega), stG] at hgo
   rw [← hgo]
   simp [h0, h8, gi, h7, borR, bor, LV.dat]
  obtain ⟨x, hxb⟩ : ∃ x, l[i]? = some x := ⟨_, List.getElem?_eq_getElem gi⟩
  have hxm : x ∈ l := List.mem_iff_getElem?.2 ⟨i, hxb⟩
  rw [stG_cut hxb] at hgo
  have hxc := cntS_le hxm
  have hsl := stS_le hm0 x (deep - 1)
  have q9 : ((stC l).drop (i * 9)).take 9 = x.f := by rw [hrow]; exact fm_take Stt.f_len hxb
  have hq9 : i * 9 + 9 ≤ (stC l).length := by rw [hrow]; exact fm_lt Stt.f_len gi
  have hxo := hok.2 x hxm
  obtain ⟨kd, nm, len, op, xs, ns, ls, bb⟩ := x
  rw [Stt.ok] at hxo
  obtain ⟨o1, o2, o3, o4, o5, o6, o7, o8, o9⟩ := hxo
  rw [stS_N most (deep - 1) _ _ _ _ _ _ _ _ _ rfl] at hgo hsl
  simp only [cntS] at hxc
  obtain ⟨bd, hbd⟩ : ∃ bd, bd = badS (.mk kd nm len op xs ns ls bb) := ⟨_, rfl⟩
  rw [← hbd] at hgo
  simp only [badS] at hbd
  by_cases t1 : 20 < (nm.length : Int)
  ·have t1' : 20 < nm.length := by omega
   rw [if_pos (by rw [hbd]; simp [t1'])] at hgo
   rw [← hgo]
   simp [h0, h1, h8, gi, q9, hq9, Stt.f, t1, borR, bor, LV.dat]
   omega
  have t1' : ¬ 20 < nm.length := by omega
  simp [h0, h1, h8, gi, q9, hq9, Stt.f, t1]
  refine CallL_F (LightLen_any len.c len.ts o3.2.1) (bors_self _ (by simp [dats, LV.dat, tmC_dats'])) ?_
  cases t2 : lightL len.c len.ts with
  | false =>
   rw [if_pos (by rw [hbd]; simp [t2])] at hgo
   rw [← hgo]
   simp [h1, borR, bor, LV.dat]
   omega
  | true =>
  by_cases t3 : 8 < (xs.length : Int)
  ·have t3' : 8 < xs.length := by omega
   rw [if_pos (by rw [hbd]; simp [t3'])] at hgo
   rw [← hgo]
   simp [h1, t3, borR, bor, LV.dat]
   omega
  have t3' : ¬ 8 < xs.length := by omega
  simp [t3]
  refine CallL_V (lightNames_ok ns o6.1) (by simp [dats, LV.dat, strC_dats']) ?_
  cases t4 : nmsE ns with
  | false =>
   rw [if_pos (by rw [hbd]; simp [t4])] at hgo
   rw [← hgo]
   simp [h1, borR, bor, LV.dat]
   omega
  | true =>
  simp
  refine CallL_V (lightLens_ok ls o7) (by simp [dats, LV.dat, lenC_dats]) ?_
  cases t5 : lnsE ls with
  | false =>
   rw [if_pos (by rw [hbd]; simp [t5])] at hgo
   rw [← hgo]
   simp [h1, borR, bor, LV.dat]
   omega
  | true =>
  rw [if_neg (by rw [hbd, t2, t4, t5]; simp; omega)] at hgo
  simp [h1, h2, h7]
  refine ⟨by omega, CallL_V (ih (cntL bb) (by omega) bb rfl ⟨o8, (stsOk_iff bb).1 o9⟩ (deep - 1) (by omega) (by omega)) (by simp [dats, LV.dat, stC_dats]) ?_⟩
  by_cases t6 : most < n + stN most (deep - 1) bb
  ·rw [if_pos t6] at hgo
   rw [← hgo]
   simp [h1, h7, t6, borR, bor, LV.dat]
   omega
  rw [if_neg t6] at hgo
  simp [h1, h7, h8, t6]
  refine ⟨by omega, by omega, hNx _ _ _ ⟨N - 1, by omega, i + 1, n + stN most (deep - 1) bb, rfl, by omega, by simp [h0], by simp [h1], by simp [h2], by simp, by simp, by omega, by omega, hgo⟩⟩
theorem LightProcs_ok (l : List PrcT) (hl : okL PrcT.ok l) : FnV Try.prog 7 [.lst (prcC l) l.length 6] (.bool (lightE l)) := by
 refine FnV.mk rfl (call_body r_kit_LightProcs k_kit_LightProcs (by simp) ?_)
 have hll := hl.1
 by_cases c5 : 5 < (l.length : Int)
 ·have : lightE l = false := by simp [lightE]; intro h; omega
  rw [this]
  simp [c_kit_LightProcs, c5, borR, bor, LV.dat]
 have : lightE l = ligF (l.drop 0) 0 := by
  have : decide (l.length ≤ 5) = true := by simp; omega
  simp [lightE, this]
 rw [this]
 simp [c_kit_LightProcs, c5]
 refine loop_nx (fun ρ D G N => ∃ (i : Nat) (n : Int), D = [] ∧ N + i = l.length ∧ lk ρ 0 = .lst (prcC l) l.length 6 ∧ lk ρ 4 = .i i ∧ lk ρ 3 = .i n ∧ 0 ≤ n ∧ n ≤ i * 100 ∧ ligF (l.drop i) n = ligF l 0) (N := l.length) ⟨0, 0, rfl, by omega, by simp, by simp, by simp, by omega, by omega, by simp⟩ ?_
 rintro N ρ D G ⟨i, n, rfl, hN, h0, h4, h3, hn0, hn1, hgo⟩ Nx hNx
 by_cases gi : i < l.length
 case neg =>
  rw [List.drop_of_length_le (by omega), ligF] at hgo
  rw [← hgo]
  by_cases t1 : n ≤ 40
  ·simp [h0, h4, gi, h3, t1, borR, bor, LV.dat]
  ·simp [h0, h4, gi, h3, t1, borR, bor, LV.dat]
 rw [ligF_cut (gp_at gi)] at hgo
 have q6 : ((prcC l).drop (i * 6)).take 6 = (gp l i).f := fm_take PrcT.f_len (gp_at gi)
 have hq6 : i * 6 + 6 ≤ (prcC l).length := fm_lt PrcT.f_len gi
 have hm : gp l i ∈ l := List.mem_iff_getElem?.2 ⟨i, gp_at gi⟩
 obtain ⟨o1, o2, o3, o4, o5, o6⟩ := hl.2 _ hm
 generalize gp l i = p at *
 obtain ⟨bd, hbd⟩ : ∃ bd, bd = badP p := ⟨_, rfl⟩
 rw [← hbd] at hgo
 simp only [badP] at hbd
 by_cases t1 : 20 < (p.name.length : Int)
 ·have t1' : 20 < p.name.length := by omega
  rw [if_pos (by rw [hbd]; simp [t1'])] at hgo
  rw [← hgo]
  simp [h0, h4, gi, q6, hq6, PrcT.f, t1, borR, bor, LV.dat]
 simp [h0, h4, gi, q6, hq6, PrcT.f, t1]
 refine CallL_V (lightNames_ok p.lens o2.1) (by simp [dats, LV.dat, strC_dats']) ?_
 cases t2 : nmsE p.lens with
 | false =>
  rw [if_pos (by rw [hbd]; simp [t2])] at hgo
  rw [← hgo]
  simp [borR, bor, LV.dat]
 | true =>
 by_cases t3 : 14 < (p.params.length : Int)
 ·have t3' : 14 < p.params.length := by omega
  rw [if_pos (by rw [hbd]; simp [t3'])] at hgo
  rw [← hgo]
  simp [t3, borR, bor, LV.dat]
 by_cases t4 : 10 < (p.req.length : Int)
 ·have t4' : 10 < p.req.length := by omega
  rw [if_pos (by rw [hbd]; simp [t4'])] at hgo
  rw [← hgo]
  simp [t3, t4, borR, bor, LV.dat]
 by_cases t5 : 10 < (p.ens.length : Int)
 ·have t5' : 10 < p.ens.length := by omega
  rw [if_pos (by rw [hbd]; simp [t5'])] at hgo
  rw [← hgo]
  simp [t3, t4, t5, borR, bor, LV.dat]
 rw [if_neg (by rw [hbd, t2]; simp; omega)] at hgo
 simp [t3, t4, t5]
 obtain ⟨G1, hG1⟩ : ∃ G1, G1 = G ++ [LObj.cells [.str p.name, .lst (strC p.lens) p.lens.length 1, .lst (parC p.params) p.params.length 4, .lst (claC p.req) p.req.length 3, .lst (claC p.ens) p.ens.length 3, .lst (stC p.body) p.body.length 9] 1] := ⟨_, rfl⟩
 have b1 : G1[G.length]? = some (.cells [.str p.name, .lst (strC p.lens) p.lens.length 1, .lst (parC p.params) p.params.length 4, .lst (claC p.req) p.req.length 3, .lst (claC p.ens) p.ens.length 3, .lst (stC p.body) p.body.length 9] 1) := by rw [hG1]; simp
 rw [← hG1]
 have hpl := o3.1
 refine loop_nx (fun ρ D H N => ∃ j : Nat, D = [] ∧ H = G1 ∧ N + j = p.params.length ∧ lk ρ 0 = .lst (prcC l) l.length 6 ∧ lk ρ 4 = .i i ∧ lk ρ 3 = .i n ∧ lk ρ 5 = .ptr G.length 0 ∧ lk ρ 6 = .i j ∧ ∀ k t, k < j → p.params[k]? = some t → lightL t.len.c t.len.ts = true) (N := p.params.length) ⟨0, rfl, rfl, by omega, by simp [h0], by simp [h4], by simp [h3], by simp, by simp, fun k t hk => by omega⟩ ?_
 rintro N2 ρ2 D2 H2 ⟨j, rfl, rfl, hN2, k0, k4, k3, k5, k6, hn⟩ Nx2 hNx2
 by_cases g : j < p.params.length
 ·have hg := List.getElem?_eq_getElem g
  have q4 : ((parC p.params).drop (j * 4)).take 4 = p.params[j].f := fm_take ParT.f_len hg
  have hq4 : j * 4 + 4 ≤ (parC p.params).length := fm_lt ParT.f_len g
  have q2 : ((parC p.params).drop (j * 4 + 2)).take 2 = [.i p.params[j].len.c, .lst (tmC p.params[j].len.ts) p.params[j].len.ts.length 2] := by
   have : ((parC p.params).drop (j * 4 + 2)).take 2 = (((parC p.params).drop (j * 4)).take 4).drop 2 := by rw [List.drop_take, List.drop_drop]
   rw [this, q4]; rfl
  have hq2 : j * 4 + 2 + 2 ≤ (parC p.params).length := by omega
  have hok := o3.2 _ (List.getElem_mem g)
  simp [k5, k6, b1, g, q2, hq2]
  refine CallL_F (LightLen_any p.params[j].len.c p.params[j].len.ts hok.2.2.2.1) (bors_self _ (by simp [dats, LV.dat, tmC_dats'])) ?_
  cases t6 : lightL p.params[j].len.c p.params[j].len.ts with
  | false =>
   have : (p.params.all fun x => lightL x.len.c x.len.ts) = false := List.all_eq_false.2 ⟨_, List.getElem_mem g, by simp [t6]⟩
   rw [if_pos this] at hgo
   rw [← hgo]
   simp [borR, bor, LV.dat]
  | true =>
   simp [k6]
   refine ⟨by omega, hNx2 _ _ _ ⟨N2 - 1, by omega, j + 1, rfl, rfl, by omega, by simp [k0], by simp [k4], by simp [k3], by simp [k5], by simp, fun k t hk ht => ?_⟩⟩
   by_cases e : k = j
   ·subst e; rw [hg] at ht; cases ht; exact t6
   ·exact hn k t (by omega) ht
 ·have ha : (p.params.all fun x => lightL x.len.c x.len.ts) = true := List.all_eq_true.2 fun t ht => by
   obtain ⟨j, hj, rfl⟩ := List.mem_iff_getElem.1 ht
   exact hn j _ (by omega) (List.getElem?_eq_getElem _)
  rw [if_neg (by rw [ha]; decide)] at hgo
  have hsl := stN_le (most := 40) (by omega) 6 p.body
  simp [k3, k5, k6, b1, g]
  refine CallL_V (statements_ok 40 (by omega) (by omega) (cntL p.body) p.body rfl o6 6 (by omega) (by omega)) (by simp [dats, LV.dat, stC_dats]) ?_
  simp [k3, k4]
  refine ⟨by omega, by omega, hNx _ _ _ ⟨N - 1, by omega, i + 1, n + stN 40 6 p.body, rfl, by omega, by simp [k0], by simp, by simp, by omega, by omega, hgo⟩⟩
end Go.Proofs.Ytcbbilifblbblaa
