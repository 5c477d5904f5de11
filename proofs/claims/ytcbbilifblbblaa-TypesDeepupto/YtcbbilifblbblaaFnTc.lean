/- Names, lengths, expressions, walked. -/
import Derived.Test.YtcbbilifblbblaaFnTa
import Derived.Test.YtcbbilifblbblaaSvG3
namespace Go.Proofs.Ytcbbilifblbblaa
open Go.Sv
set_option linter.unusedSimpArgs false
set_option linter.unusedVariables false
set_option maxRecDepth 10000
def c_slices_Index_string_string : LC := (.seq (.ops [.z 4 (.move (.c (.i 0)))]) (.seq (.seq (.ops [.m 6 0,.z 7 (.lenSl (.t 6)),.z 8 (.move (.c (.i 0)))]) (.block 0 (.loop (.seq (.ops [.z 9 (.bin .lss false 3 (.t 8) (.t 7))]) (.seq (.cond (.t 9) .skip (.exit 0)) (.seq (.block 1 (.seq (.ops [.m 10 8,.m 5 10]) (.seq (.ops [.m 11 1,.m 12 0,.m 13 5,.z 14 (.ixAddr 1 (.t 12) (.t 13)),.l 15 14,.z 16 (.bin .eql false 9 (.t 11) (.t 15))]) (.cond (.t 16) (.seq (.ops [.m 17 5,.m 4 17]) .ret) .skip)))) (.ops [.z 18 (.bin .add true 3 (.t 8) (.c (.i 1))),.m 8 18]))))))) (.seq (.ops [.z 4 (.move (.c (.i (-1))))]) .ret)))
theorem r_slices_Index_string_string : resFn Try.prog 44 = some ⟨19, c_slices_Index_string_string.r, [.tmp 4]⟩ := by kernel_rfl
theorem k_slices_Index_string_string : c_slices_Index_string_string.ok = true := by kernel_rfl
def c_slices_Contains_string_string : LC := (.seq (.ops [.z 4 (.move (.c (.bool false)))]) (.seq (.ops [.m 5 0,.m 6 1,.z 7 (.callV (.c (.fn (.func 44) [] [])) [.t 5,.t 6]),.z 8 (.bin .geq true 3 (.t 7) (.c (.i 0))),.m 4 8]) .ret))
theorem r_slices_Contains_string_string : resFn Try.prog 30 = some ⟨9, c_slices_Contains_string_string.r, [.tmp 4]⟩ := by kernel_rfl
theorem k_slices_Contains_string_string : c_slices_Contains_string_string.ok = true := by kernel_rfl
def c_types_foreign : LC := (.seq (.ops [.z 2 (.box (.t 0)),.z 3 (.box (.t 1)),.z 4 (.move (.c (.bool false)))]) (.seq (.ops [.f 5 1 2,.l 6 5,.z 7 (.mkFunc 47 [] [.t 3]),.z 8 (.callV (.c (.fn (.func 46) [] [])) [.t 6,.t 7]),.m 4 8]) .ret))
theorem r_types_foreign : resFn Try.prog 33 = some ⟨9, c_types_foreign.r, [.tmp 4]⟩ := by kernel_rfl
theorem k_types_foreign : c_types_foreign.ok = true := by kernel_rfl
def c_types_foreign_1 : LC := (.seq (.ops [.z 2 (.box (.t 0)),.z 3 (.move (.c (.bool false)))]) (.seq (.ops [.l 4 1,.f 5 0 2,.l 6 5,.z 7 (.callV (.c (.fn (.func 30) [] [])) [.t 4,.t 6]),.z 8 (.un .not (.t 7)),.m 3 8]) .ret))
theorem r_types_foreign_1 : resFn Try.prog 47 = some ⟨9, c_types_foreign_1.r, [.tmp 3]⟩ := by kernel_rfl
theorem k_types_foreign_1 : c_types_foreign_1.ok = true := by kernel_rfl
def c_types_Args : LC := (.seq (.ops [.z 2 (.move (.c (.i 0)))]) (.seq (.seq (.ops [.m 3 0]) (.block 0 (.seq (.ops [.z 5 (.bin .eql true 9 (.t 3) (.c (.str []))),.m 4 5]) (.cond (.t 4) (.seq (.ops [.z 2 (.move (.c (.i 1)))]) .ret) (.seq (.seq (.ops [.z 7 (.bin .eql true 9 (.t 3) (.c (.str [43]))),.m 6 7]) (.cond (.t 6) .skip (.seq (.ops [.z 8 (.bin .eql true 9 (.t 3) (.c (.str [45]))),.m 6 8]) (.cond (.t 6) .skip (.seq (.ops [.z 9 (.bin .eql true 9 (.t 3) (.c (.str [42]))),.m 6 9]) (.cond (.t 6) .skip (.seq (.ops [.z 10 (.bin .eql true 9 (.t 3) (.c (.str [107,109,117,108]))),.m 6 10]) (.cond (.t 6) .skip (.seq (.ops [.z 11 (.bin .eql true 9 (.t 3) (.c (.str [108,116]))),.m 6 11]) (.cond (.t 6) .skip (.ops [.z 12 (.bin .eql true 9 (.t 3) (.c (.str [109,111,100]))),.m 6 12]))))))))))) (.cond (.t 6) (.seq (.ops [.z 2 (.move (.c (.i 2)))]) .ret) (.seq (.seq (.ops [.z 14 (.bin .eql true 9 (.t 3) (.c (.str [115,101,108]))),.m 13 14]) (.cond (.t 13) .skip (.seq (.ops [.z 15 (.bin .eql true 9 (.t 3) (.c (.str [97,100,100,109]))),.m 13 15]) (.cond (.t 13) .skip (.seq (.ops [.z 16 (.bin .eql true 9 (.t 3) (.c (.str [115,117,98,109]))),.m 13 16]) (.cond (.t 13) .skip (.ops [.z 17 (.bin .eql true 9 (.t 3) (.c (.str [109,111,110,116]))),.m 13 17]))))))) (.cond (.t 13) (.seq (.ops [.z 2 (.move (.c (.i 3)))]) .ret) (.seq (.ops [.z 19 (.bin .eql true 9 (.t 3) (.c (.str [112,111,119]))),.m 18 19]) (.cond (.t 18) (.seq (.ops [.z 2 (.move (.c (.i 4)))]) .ret) .skip)))))))))) (.seq (.ops [.z 2 (.move (.c (.i 0)))]) .ret)))
theorem r_types_Args : resFn Try.prog 80 = some ⟨20, c_types_Args.r, [.tmp 2]⟩ := by kernel_rfl
theorem k_types_Args : c_types_Args.ok = true := by kernel_rfl
def c_types_scope_lacks : LC := (.seq (.ops [.z 4 (.move (.c (.bool false)))]) (.seq (.ops [.m 8 0,.m 9 1,.z 10 (.lookup .string (.agg [(.str []),(.bool false),(.i 0)]) true (.t 8) (.t 9)),.m 7 10,.z 11 (.extract 0 (.t 7)),.z 12 (.extract 1 (.t 7)),.z 5 (.alloc [(.str []),(.bool false),(.i 0)]),⟨none,none,.store 3 (.t 5) (.t 11)⟩,.m 6 12]) (.seq (.ops [.m 13 6,.z 14 (.un .not (.t 13)),.m 4 14]) .ret)))
theorem r_types_scope_lacks : resFn Try.prog 35 = some ⟨15, c_types_scope_lacks.r, [.tmp 4]⟩ := by kernel_rfl
theorem k_types_scope_lacks : c_types_scope_lacks.ok = true := by kernel_rfl
def c_types_scope_secret : LC := (.seq (.ops [.z 2 (.box (.t 0)),.z 3 (.box (.t 1)),.z 4 (.move (.c (.bool false)))]) (.seq (.ops [.f 5 1 3,.l 6 5,.z 7 (.mkFunc 83 [] [.t 2]),.z 8 (.callV (.c (.fn (.func 81) [] [])) [.t 6,.t 7]),.m 4 8]) .ret))
theorem r_types_scope_secret : resFn Try.prog 65 = some ⟨9, c_types_scope_secret.r, [.tmp 4]⟩ := by kernel_rfl
theorem k_types_scope_secret : c_types_scope_secret.ok = true := by kernel_rfl
def c_types_scope_secret_1 : LC := (.seq (.ops [.z 2 (.box (.t 0)),.z 3 (.move (.c (.bool false)))]) (.seq (.ops [.f 4 0 2,.l 5 4,.z 6 (.bin .neq true 9 (.t 5) (.c (.str []))),.m 7 6,⟨some 8,(some (7,true)),.load1 (.t 1)⟩,⟨some 9,(some (7,true)),.fieldAddr 0 (.t 2)⟩,⟨some 10,(some (7,true)),.load1 (.t 9)⟩,⟨some 11,(some (7,true)),.lookup .string (.agg [(.str []),(.bool false),(.i 0)]) false (.t 8) (.t 10)⟩,⟨some 12,(some (7,true)),.field false 1 1 (.t 11)⟩,.z 13 (.pick (.t 7) (.t 12) (.c (.bool false))),.m 3 13]) .ret))
theorem r_types_scope_secret_1 : resFn Try.prog 83 = some ⟨14, c_types_scope_secret_1.r, [.tmp 3]⟩ := by kernel_rfl
theorem k_types_scope_secret_1 : c_types_scope_secret_1.ok = true := by kernel_rfl
def c_types_scope_expr : LC := (.seq (.ops [.z 2 (.box (.t 0)),.z 3 (.box (.t 1)),.z 4 (.move (.c (.i 0)))]) (.seq (.seq (.ops [.f 6 0 3,.l 7 6,.z 8 (.callV (.c (.fn (.func 80) [] [])) [.t 7]),.m 5 8]) (.seq (.ops [.m 9 5,.z 10 (.bin .eql true 3 (.t 9) (.c (.i 0))),.m 11 10,⟨some 12,(some (11,false)),.fieldAddr 1 (.t 3)⟩,⟨some 13,(some (11,false)),.load1 (.t 12)⟩,⟨some 14,(some (11,false)),.lenSl (.t 13)⟩,⟨some 15,(some (11,false)),.move (.t 5)⟩,⟨some 16,(some (11,false)),.bin .neq false 3 (.t 14) (.t 15)⟩,.z 17 (.pick (.t 11) (.c (.bool true)) (.t 16))]) (.cond (.t 17) (.seq (.ops [.z 4 (.move (.c (.i 2)))]) .ret) .skip))) (.seq (.seq (.ops [.f 18 1 3,.l 19 18,.z 20 (.mkFunc 82 [] [.t 2]),.z 21 (.callV (.c (.fn (.func 81) [] [])) [.t 19,.t 20])]) (.cond (.t 21) (.seq (.ops [.z 4 (.move (.c (.i 5)))]) .ret) .skip)) (.seq (.seq (.ops [.f 22 0 3,.l 23 22,.z 24 (.bin .eql true 9 (.t 23) (.c (.str [112,111,119]))),.m 25 24,⟨some 26,(some (25,true)),.fieldAddr 1 (.t 3)⟩,⟨some 27,(some (25,true)),.load1 (.t 26)⟩,⟨some 28,(some (25,true)),.ixAddr 2 (.t 27) (.c (.i 3))⟩,⟨some 29,(some (25,true)),.fieldAddr 0 (.t 28)⟩,⟨some 30,(some (25,true)),.load1 (.t 29)⟩,⟨some 31,(some (25,true)),.bin .neq true 9 (.t 30) (.c (.str []))⟩,⟨some 32,(some (25,true)),.move (.t 31)⟩,⟨some 33,(some (32,false)),.fieldAddr 1 (.t 3)⟩,⟨some 34,(some (32,false)),.load1 (.t 33)⟩,⟨some 35,(some (32,false)),.ixAddr 2 (.t 34) (.c (.i 3))⟩,⟨some 36,(some (32,false)),.fieldAddr 1 (.t 35)⟩,⟨some 37,(some (32,false)),.load1 (.t 36)⟩,⟨some 38,(some (32,false)),.bin .lss true 139 (.t 37) (.c (.u 1))⟩,⟨some 39,(some (25,true)),.pick (.t 32) (.c (.bool true)) (.t 38)⟩,⟨some 40,(some (25,true)),.move (.t 39)⟩,⟨some 41,(some (40,false)),.fieldAddr 1 (.t 3)⟩,⟨some 42,(some (40,false)),.load1 (.t 41)⟩,⟨some 43,(some (40,false)),.ixAddr 2 (.t 42) (.c (.i 3))⟩,⟨some 44,(some (40,false)),.fieldAddr 1 (.t 43)⟩,⟨some 45,(some (40,false)),.load1 (.t 44)⟩,⟨some 46,(some (40,false)),.bin .gtr true 139 (.t 45) (.c (.u 6))⟩,⟨some 47,(some (25,true)),.pick (.t 40) (.c (.bool true)) (.t 46)⟩,.z 48 (.pick (.t 25) (.t 47) (.c (.bool false)))]) (.cond (.t 48) (.seq (.ops [.z 4 (.move (.c (.i 2)))]) .ret) .skip)) (.seq (.ops [.z 4 (.move (.c (.i 0)))]) .ret)))))
theorem r_types_scope_expr : resFn Try.prog 63 = some ⟨49, c_types_scope_expr.r, [.tmp 4]⟩ := by kernel_rfl
theorem k_types_scope_expr : c_types_scope_expr.ok = true := by kernel_rfl
def c_types_scope_expr_1 : LC := (.seq (.ops [.z 2 (.box (.t 0)),.z 3 (.move (.c (.bool false)))]) (.seq (.ops [.f 4 0 2,.l 5 4,.z 6 (.bin .neq true 9 (.t 5) (.c (.str []))),.m 7 6,⟨some 8,(some (7,true)),.load1 (.t 1)⟩,⟨some 9,(some (7,true)),.fieldAddr 0 (.t 2)⟩,⟨some 10,(some (7,true)),.load1 (.t 9)⟩,⟨some 11,(some (7,true)),.callV (.c (.fn (.func 35) [] [])) [.t 8,.t 10]⟩,.z 12 (.pick (.t 7) (.t 11) (.c (.bool false))),.m 3 12]) .ret))
theorem r_types_scope_expr_1 : resFn Try.prog 82 = some ⟨13, c_types_scope_expr_1.r, [.tmp 3]⟩ := by kernel_rfl
theorem k_types_scope_expr_1 : c_types_scope_expr_1.ok = true := by kernel_rfl
def c_types_given : LC := (.seq (.ops [.z 1 (.box (.t 0)),.z 2 (.move (.c (.bool false)))]) (.seq (.ops [.f 3 2 1,.l 4 3,.z 5 (.bin .eql true 3 (.t 4) (.c (.i 1))),.m 6 5,⟨some 7,(some (6,false)),.fieldAddr 2 (.t 1)⟩,⟨some 8,(some (6,false)),.load1 (.t 7)⟩,⟨some 9,(some (6,false)),.bin .eql true 3 (.t 8) (.c (.i 2))⟩,.z 10 (.pick (.t 6) (.c (.bool true)) (.t 9)),.m 2 10]) .ret))
theorem r_types_given : resFn Try.prog 66 = some ⟨11, c_types_given.r, [.tmp 2]⟩ := by kernel_rfl
theorem k_types_given : c_types_given.ok = true := by kernel_rfl
theorem IndexS_ok (l : List Str) (s : Str) (hl : l.length ≤ 9223372036854775807) : FnS Try.prog 44 [.lst (strC l) l.length 1, .str s] (.i (ixZ (fun n => decide (s = n)) l)) [] := by
 refine FnS.val rfl (call_body r_slices_Index_string_string k_slices_Index_string_string (by simp) ?_)
 simp [c_slices_Index_string_string]
 refine loop_nx (fun ρ D G N => ∃ i : Nat, D = [] ∧ N + i = l.length ∧ lk ρ 0 = .lst (strC l) l.length 1 ∧ lk ρ 1 = .str s ∧ lk ρ 7 = .i l.length ∧ lk ρ 8 = .i i ∧ ∀ j b, j < i → l[j]? = some b → decide (s = b) = false) (N := l.length) ⟨0, by simp⟩ ?_
 rintro N ρ D G ⟨i, rfl, hN, h0, h1, h7, h8, hn⟩ Nx hNx
 by_cases hi : l.length ≤ i
 ·have g : ¬ i < l.length := by omega
  simp [h0, h1, h7, h8, g]
  rw [ixZ_none hi hn]
 ·have g : i < l.length := by omega
  have hg := List.getElem?_eq_getElem g
  have hq : (strC l)[i]? = some (.str l[i]) := map_at (f := LV.str) hg
  have hs : i < (strC l).length := by simp [strC]; omega
  by_cases hb : s = l[i]
  ·simp [h0, h1, h7, h8, g, nthL_at hq, hs, ← hb]
   rw [ixZ_at hg (by simp [hb]) hn]
  ·simp [h0, h1, h7, h8, g, nthL_at hq, hs, hb]
   refine ⟨by omega, hNx _ _ _ ⟨N - 1, by omega, i + 1, rfl, by omega, by simp [h0], by simp [h1], by simp [h7], by simp, fun j b hj hjb => ?_⟩⟩
   by_cases e : j = i
   ·subst e; rw [hg] at hjb; cases hjb; simp [hb]
   ·exact hn j b (by omega) hjb
theorem strC_dats (l : List Str) : dats (strC l) = true := dats_map (fun _ => rfl) l
theorem ContainsS_ok (l : List Str) (s : Str) (hl : l.length ≤ 9223372036854775807) : FnS Try.prog 30 [.lst (strC l) l.length 1, .str s] (.bool (hasS l s)) [] := by
 refine FnS.val rfl (call_body r_slices_Contains_string_string k_slices_Contains_string_string (by simp) ?_)
 simp [c_slices_Contains_string_string]
 refine CallL_F (IndexS_ok l s hl) (bors_self _ (by simp [dats, LV.dat, strC_dats])) ?_
 simp
 exact ixZ_any _ l
theorem types_Args_ok (op : Str) : FnS Try.prog 80 [.str op] (.i (argN op)) [] := by
 refine FnS.val rfl (call_body r_types_Args k_types_Args (by simp) ?_)
 by_cases e0 : op = []
 ·simp [c_types_Args, argN, e0]
 by_cases e1 : op = [43]
 ·simp [c_types_Args, argN, e1]
 by_cases e2 : op = [45]
 ·simp [c_types_Args, argN, e2]
 by_cases e3 : op = [42]
 ·simp [c_types_Args, argN, e3]
 by_cases e4 : op = [107, 109, 117, 108]
 ·simp [c_types_Args, argN, e4]
 by_cases e5 : op = [108, 116]
 ·simp [c_types_Args, argN, e5]
 by_cases e6 : op = [109, 111, 100]
 ·simp [c_types_Args, argN, e6]
 by_cases f1 : op = [115, 101, 108]
 ·simp [c_types_Args, argN, f1]
 by_cases f2 : op = [97, 100, 100, 109]
 ·simp [c_types_Args, argN, f2]
 by_cases f3 : op = [115, 117, 98, 109]
 ·simp [c_types_Args, argN, f3]
 by_cases f4 : op = [109, 111, 110, 116]
 ·simp [c_types_Args, argN, f4]
 by_cases f5 : op = [112, 111, 119]
 ·simp [c_types_Args, argN, f5, powS]
 simp [c_types_Args, argN, e0, e1, e2, e3, e4, e5, e6, f1, f2, f3, f4, f5, powS]
theorem types_given_ok (v : TypT) : FnS Try.prog 66 [.agg v.f] (.bool (givenT v)) [] := by
 refine FnS.val rfl (call_body r_types_given k_types_given (by simp) ?_)
 by_cases h : v.mode = 1 <;> simp [c_types_given, TypT.f, givenT, h]
section heap
variable {G0 G : LHeap} {K : LV → LHeap → Prop}
theorem foreign_1_any {c st : Nat} {names : List Str} (hn : names.length ≤ 9223372036854775807) (hc : G0[c]? = some (.cells [.lst (strC names) names.length 1] st)) (t : Tm) : Prd Try.prog 47 [] [.ptr c 0] (.agg [.str t.1, .i t.2]) G0 (!hasS names t.1) := by
 intro G1 hE K k
 refine call_body r_types_foreign_1 k_types_foreign_1 (by simp) ?_
 have hc1 := hE.at_ hc
 have hl := (List.getElem?_eq_some_iff.1 hc1).1
 simp [c_types_foreign_1, ↓oldP hl, hc1]
 refine CallL_F (ContainsS_ok names t.1 hn) (bors_self _ (by simp [dats, LV.dat, strC_dats])) ?_
 simp
 exact k _ (Ext.app _ _)
theorem foreign_any {l : LenT} {names : List Str} (hl : l.ts.length ≤ 9223372036854775807) (hn : names.length ≤ 9223372036854775807) (k : ∀ G', Ext G G' → K (.bool (foreignE l.ts names)) G') :
  CallL Try.prog (.fn 33) [.agg l.f, .lst (strC names) names.length 1] G K := by
 refine call_body r_types_foreign k_types_foreign (by simp) ?_
 simp [c_types_foreign, LenT.f]
 refine HasTrm_any (q' := fun t => !hasS names t.1) (G0 := G ++ [.cells [.i l.c, .lst (tmC l.ts) l.ts.length 2] 0, .cells [.lst (strC names) names.length 1] 0]) l.ts hl (Ext.refl _) (fun t ht => foreign_1_any (c := G.length + 1) (st := 0) hn (by simp) t) fun G' hE => ?_
 simp
 exact k G' ((Ext.app _ _).trans hE)
theorem lacks_any {p ck st : Nat} {es : Ens} (hp : G[p]? = some (.map (scM es) ck st)) {n : Str} (k : ∀ G', Ext G G' → K (.bool ((scF es).lacks n)) G') : CallL Try.prog (.fn 35) [.map p, .str n] G K := by
 refine call_body r_types_scope_lacks k_types_scope_lacks (by simp) ?_
 cases h : scF es n with
 | none =>
  simp [c_types_scope_lacks, hp, find_sc, h]
  have := k _ (Ext.app G [.cells [.str [], .bool false, .i 0] 1])
  simpa [Sc.lacks, h] using this
 | some v =>
  simp [c_types_scope_lacks, hp, find_sc, h, TypT.f]
  have := k _ (Ext.app G [.cells [.str v.name, .bool v.sec, .i v.mode] 1])
  simpa [Sc.lacks, h] using this
theorem lacks_prd {p ck st : Nat} {es : Ens} (hp : G0[p]? = some (.map (scM es) ck st)) (n : Str) : Prd Try.prog 35 [.map p] [] (.str n) G0 ((scF es).lacks n) :=
 fun G1 hE K k => lacks_any (hE.at_ hp) k
theorem secret_1_any {p ck st c cst : Nat} {es : Ens} (hp : G0[p]? = some (.map (scM es) ck st)) (hc : G0[c]? = some (.cells [.map p] cst)) (a : ArgT) : Prd Try.prog 83 [] [.ptr c 0] (.agg a.f) G0 (!decide (a.name = []) && ((scF es).at_ a.name).sec) := by
 intro G1 hE K k
 refine call_body r_types_scope_secret_1 k_types_scope_secret_1 (by simp) ?_
 have hc1 := hE.at_ hc
 have hp1 := hE.at_ hp
 have hl := (List.getElem?_eq_some_iff.1 hc1).1
 have hl2 := (List.getElem?_eq_some_iff.1 hp1).1
 have hf : a.f = [.str a.name, .u a.num] := rfl
 by_cases h0 : a.name = []
 ·simp [c_types_scope_secret_1, hf, h0]
  have := k _ (Ext.app G1 [.cells [.str a.name, .u a.num] 0])
  simpa [h0] using this
 ·cases h : scF es a.name with
  | none =>
   simp [c_types_scope_secret_1, hf, h0, ↓oldP hl, ↓oldP hl2, hc1, hp1, find_sc, h]
   have := k _ (Ext.app G1 [.cells [.str a.name, .u a.num] 0])
   simpa [h0, Sc.at_, h, typ0] using this
  | some v =>
   simp [c_types_scope_secret_1, hf, h0, ↓oldP hl, ↓oldP hl2, hc1, hp1, find_sc, h, TypT.f]
   have := k _ (Ext.app G1 [.cells [.str a.name, .u a.num] 0])
   simpa [h0, Sc.at_, h] using this
theorem secret_any {p ck st : Nat} {es : Ens} (hp : G[p]? = some (.map (scM es) ck st)) {op : Str} {xs : List ArgT} (hl : xs.length ≤ 9223372036854775807) (k : ∀ G', Ext G G' → K (.bool (secE (scF es) xs)) G') :
  CallL Try.prog (.fn 65) [.map p, .agg [.str op, .lst (argC xs) xs.length 2]] G K := by
 refine call_body r_types_scope_secret k_types_scope_secret (by simp) ?_
 simp [c_types_scope_secret]
 obtain ⟨G1, hG1⟩ : ∃ G1, G1 = G ++ [LObj.cells [.map p] 0, .cells [.str op, .lst (argC xs) xs.length 2] 0] := ⟨_, rfl⟩
 have e1 : Ext G G1 := by rw [hG1]; exact Ext.app _ _
 rw [← hG1]
 refine HasArg_any (q' := fun a => !decide (a.name = []) && ((scF es).at_ a.name).sec) (G0 := G1) xs hl (Ext.refl _) (fun a ha => secret_1_any (c := G.length) (cst := 0) (e1.at_ hp) (by rw [hG1]; simp) a) fun G' hE => ?_
 simp
 exact k G' (e1.trans hE)
theorem expr_1_any {p ck st c cst : Nat} {es : Ens} (hp : G0[p]? = some (.map (scM es) ck st)) (hc : G0[c]? = some (.cells [.map p] cst)) (a : ArgT) : Prd Try.prog 82 [] [.ptr c 0] (.agg a.f) G0 (!decide (a.name = []) && (scF es).lacks a.name) := by
 intro G1 hE K k
 refine call_body r_types_scope_expr_1 k_types_scope_expr_1 (by simp) ?_
 have hc1 := hE.at_ hc
 have hp1 := hE.at_ hp
 have hl := (List.getElem?_eq_some_iff.1 hc1).1
 have hf : a.f = [.str a.name, .u a.num] := rfl
 by_cases h0 : a.name = []
 ·simp [c_types_scope_expr_1, hf, h0]
  have := k _ (Ext.app G1 [.cells [.str a.name, .u a.num] 0])
  simpa [h0] using this
 ·simp [c_types_scope_expr_1, hf, h0, ↓oldP hl, hc1]
  refine lacks_any (es := es) ((Ext.app G1 _).at_ hp1) fun G' hE2 => ?_
  simp
  have := k _ ((Ext.app G1 _).trans hE2)
  simpa [h0] using this
theorem expr_any {p ck st : Nat} {es : Ens} (hp : G[p]? = some (.map (scM es) ck st)) {op : Str} {xs : List ArgT} (hl : xs.length ≤ 9223372036854775807) (k : ∀ G', Ext G G' → K (.i (exprE (scF es) op xs)) G') :
  CallL Try.prog (.fn 63) [.map p, .agg [.str op, .lst (argC xs) xs.length 2]] G K := by
 refine call_body r_types_scope_expr k_types_scope_expr (by simp) ?_
 simp [c_types_scope_expr]
 obtain ⟨G1, hG1⟩ : ∃ G1, G1 = G ++ [LObj.cells [.map p] 0, .cells [.str op, .lst (argC xs) xs.length 2] 0] := ⟨_, rfl⟩
 have e1 : Ext G G1 := by rw [hG1]; exact Ext.app _ _
 have x1 : G1[G.length + 1]? = some (.cells [.str op, .lst (argC xs) xs.length 2] 0) := by rw [hG1]; simp
 rw [← hG1]
 refine CallL_F (types_Args_ok op) (by simp) ?_
 by_cases g0 : argN op = 0
 ·simp [g0]
  have := k G1 e1
  simpa [exprE, g0] using this
 by_cases g1 : (xs.length : Int) = argN op
 case neg =>
  simp [g0, x1, g1]
  have := k G1 e1
  simpa [exprE, g1] using this
 simp [g0, x1, g1]
 refine HasArg_any (q' := fun a => !decide (a.name = []) && (scF es).lacks a.name) (G0 := G1) xs hl (Ext.refl _) (fun a ha => expr_1_any (c := G.length) (cst := 0) (e1.at_ hp) (by rw [hG1]; simp) a) fun G' hE => ?_
 have x2 := hE.at_ x1
 have e2 := e1.trans hE
 cases hq : xs.any (fun a => !decide (a.name = []) && (scF es).lacks a.name) with
 | true =>
  simp
  have := k G' e2
  simpa [exprE, g0, g1, lackE, hq] using this
 | false =>
  by_cases h3 : op = powS
  case neg =>
   have h3' : ¬ op = [112, 111, 119] := h3
   simp [x2, h3']
   have := k G' e2
   simpa [exprE, g0, g1, lackE, hq, h3] using this
  have h3' : op = [112, 111, 119] := h3
  have hl4 : xs.length = 4 := by rw [h3] at g1; have : argN powS = 4 := by decide
                                 omega
  have ha : xs[3]? = some (ga xs 3) := by simp [ga, List.getD_eq_getElem?_getD, hl4]
  have q0 := fm_at ArgT.f_len ha (j := 0) (by omega)
  have q1 := fm_at ArgT.f_len ha (j := 1) (by omega)
  have q0' : (argC xs)[6]? = some (.str (ga xs 3).name) := by simpa [argC, ArgT.f] using q0
  have q1' : (argC xs)[7]? = some (.u (ga xs 3).num) := by simpa [argC, ArgT.f] using q1
  have hla := (List.getElem?_eq_some_iff.1 q0').1
  have hlb := (List.getElem?_eq_some_iff.1 q1').1
  by_cases m0 : (ga xs 3).name = []
  case neg =>
   simp [x2, h3', hl4, nthL_at q0', hla, m0]
   have := k G' e2
   simpa [exprE, g0, g1, lackE, hq, h3, m0] using this
  by_cases m1 : (ga xs 3).num < 1
  ·simp [x2, h3', hl4, nthL_at q0', nthL_at q1', hla, hlb, m0, m1]
   have := k G' e2
   simpa [exprE, g0, g1, lackE, hq, h3, m0, m1] using this
  by_cases m2 : 6 < (ga xs 3).num
  ·simp [x2, h3', hl4, nthL_at q0', nthL_at q1', hla, hlb, m0, m1, m2]
   have := k G' e2
   simpa [exprE, g0, g1, lackE, hq, h3, m0, m1, m2] using this
  simp [x2, h3', hl4, nthL_at q0', nthL_at q1', hla, hlb, m0, m1, m2]
  have := k G' e2
  have g4 : ¬ argN powS = 0 := by decide
  simpa [exprE, g0, g1, lackE, hq, h3, m0, m1, m2, g4] using this
end heap
end Go.Proofs.Ytcbbilifblbblaa
