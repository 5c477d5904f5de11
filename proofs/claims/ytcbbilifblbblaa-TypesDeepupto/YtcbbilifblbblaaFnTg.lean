/- Scopes of what there is, clauses, parameters, walked. -/
import Derived.Test.YtcbbilifblbblaaFnTf
namespace Go.Proofs.Ytcbbilifblbblaa
open Go.Sv
set_option linter.unusedSimpArgs false
set_option linter.unusedVariables false
set_option maxRecDepth 10000
def c_types_visible : LC := (.seq (.ops [.z 2 (.move (.c .nilMap))]) (.seq (.ops [.z 6 (.mkMap0),.z 3 (.alloc [.nilMap]),⟨none,none,.store 1 (.t 3) (.t 6)⟩]) (.seq (.seq (.ops [.m 7 0,.z 8 (.callV (.c (.fn (.func 39) [] [])) [.t 7])]) (.block 0 (.rangeF (.t 8) [9,10] (.ops [.z 5 (.alloc [(.str []),(.bool false),(.i 0)]),⟨none,none,.store 3 (.t 5) (.t 10)⟩]) (.block 1 (.ops [.l 11 3,.f 12 0 5,.l 13 12,.z 14 (.loadN 3 (.t 5)),⟨none,none,.mapUpd .string (.t 11) (.t 13) (.t 14)⟩]))))) (.seq (.ops [.l 15 3,.m 2 15]) .ret))))
theorem r_types_visible : resFn Try.prog 25 = some ⟨16, c_types_visible.r, [.tmp 2]⟩ := by kernel_rfl
theorem k_types_visible : c_types_visible.ok = true := by kernel_rfl
def c_slices_Backward_api_Typed_api_Typed : LC := (.seq (.ops [.z 1 (.box (.t 0)),.z 2 (.move (.c .nilFn))]) (.seq (.ops [.z 3 (.mkFunc 54 [] [.t 1]),.m 2 3]) .ret))
theorem r_slices_Backward_api_Typed_api_Typed : resFn Try.prog 39 = some ⟨4, c_slices_Backward_api_Typed_api_Typed.r, [.tmp 2]⟩ := by kernel_rfl
theorem k_slices_Backward_api_Typed_api_Typed : c_slices_Backward_api_Typed_api_Typed.ok = true := by kernel_rfl
def c_slices_Backward_api_Typed_api_Typed_1 : LC := (.seq (.ops [.l 4 1,.z 5 (.lenSl (.t 4)),.z 6 (.bin .sub true 3 (.t 5) (.c (.i 1))),.m 3 6]) (.block 0 (.loop (.seq (.seq (.ops [.m 7 3,.z 8 (.bin .geq true 3 (.t 7) (.c (.i 0)))]) (.cond (.t 8) .skip (.exit 0))) (.seq (.block 1 (.seq (.ops [.m 11 0,.m 12 3,.l 13 1,.m 14 3,.z 15 (.ixAddr 3 (.t 13) (.t 14)),.z 16 (.loadN 3 (.t 15)),.z 17 (.callV (.t 11) [.t 12,.t 16]),.z 18 (.un .not (.t 17))]) (.cond (.t 18) .ret .skip))) (.ops [.m 9 3,.z 10 (.bin .sub true 3 (.t 9) (.c (.i 1))),.m 3 10]))))))
theorem r_slices_Backward_api_Typed_api_Typed_1 : resFn Try.prog 54 = some ⟨19, c_slices_Backward_api_Typed_api_Typed_1.r, []⟩ := by kernel_rfl
theorem k_slices_Backward_api_Typed_api_Typed_1 : c_slices_Backward_api_Typed_api_Typed_1.ok = true := by kernel_rfl
def c_types_looker_clauses : LC := (.seq (.ops [.z 6 (.move (.c (.i 0)))]) (.seq (.ops [.m 11 0,.z 12 (.nilChk (.t 11)),.f 13 7 12,.l 14 13,.z 15 (.callV (.c (.fn (.func 25) [] [])) [.t 14]),.z 7 (.alloc [.nilMap]),⟨none,none,.store 1 (.t 7) (.t 15)⟩]) (.seq (.seq (.ops [.m 16 1,.z 17 (.lenSl (.t 16)),.z 18 (.move (.c (.i 0)))]) (.block 0 (.loop (.seq (.ops [.z 19 (.bin .lss false 3 (.t 18) (.t 17))]) (.seq (.cond (.t 19) .skip (.exit 0)) (.seq (.block 1 (.seq (.ops [.z 20 (.ixAddr 3 (.t 16) (.t 18)),.z 21 (.loadN 3 (.t 20)),.z 9 (.alloc [(.i 0),(.str []),(.str [])]),⟨none,none,.store 3 (.t 9) (.t 21)⟩]) (.seq (.ops [.f 22 1 9,.l 23 22,.z 24 (.buildSl 1 1 [(.str [])] [(0,1,.t 23)]),.m 10 24]) (.seq (.seq (.ops [.f 25 0 9,.l 26 25]) (.block 2 (.seq (.ops [.z 28 (.bin .eql true 3 (.t 26) (.c (.i 2))),.m 27 28]) (.cond (.t 27) (.ops [.m 29 10,.f 30 2 9,.l 31 30,.z 32 (.buildSl 1 1 [(.str [])] [(0,1,.t 31)]),.z 33 (.appG 1 (.t 29) (.t 32)),.m 10 33]) (.seq (.seq (.ops [.z 35 (.bin .eql true 3 (.t 26) (.c (.i 1))),.m 34 35]) (.cond (.t 34) .skip (.ops [.z 36 (.bin .eql true 3 (.t 26) (.c (.i 3))),.m 34 36]))) (.cond (.t 34) .skip (.seq (.ops [.z 6 (.move (.c (.i 2)))]) .ret))))))) (.seq (.seq (.ops [.m 37 10,.l 38 7,.z 39 (.mkFunc 35 [.t 38] []),.z 40 (.callV (.c (.fn (.func 34) [] [])) [.t 37,.t 39])]) (.cond (.t 40) (.seq (.ops [.z 6 (.move (.c (.i 5)))]) .ret) .skip)) (.seq (.ops [.m 41 2,.m 42 41,⟨some 43,(some (42,true)),.move (.t 10)⟩,⟨some 44,(some (42,true)),.mkFunc 36 [] [.t 7]⟩,⟨some 45,(some (42,true)),.callV (.c (.fn (.func 34) [] [])) [.t 43,.t 44]⟩,.z 46 (.pick (.t 42) (.t 45) (.c (.bool false)))]) (.cond (.t 46) (.seq (.ops [.z 6 (.move (.c (.i 2)))]) .ret) .skip))))))) (.ops [.z 47 (.bin .add true 3 (.t 18) (.c (.i 1))),.m 18 47]))))))) (.seq (.ops [.z 6 (.move (.c (.i 0)))]) .ret))))
theorem r_types_looker_clauses : resFn Try.prog 23 = some ⟨48, c_types_looker_clauses.r, [.tmp 6]⟩ := by kernel_rfl
theorem k_types_looker_clauses : c_types_looker_clauses.ok = true := by kernel_rfl
def c_types_looker_clauses_1 : LC := (.seq (.ops [.z 3 (.move (.c (.bool false)))]) (.seq (.ops [.l 4 1,.m 5 0,.z 6 (.lookup .string (.agg [(.str []),(.bool false),(.i 0)]) false (.t 4) (.t 5)),.z 7 (.field false 1 2 (.t 6)),.z 8 (.bin .eql true 3 (.t 7) (.c (.i 3))),.m 3 8]) .ret))
theorem r_types_looker_clauses_1 : resFn Try.prog 36 = some ⟨9, c_types_looker_clauses_1.r, [.tmp 3]⟩ := by kernel_rfl
theorem k_types_looker_clauses_1 : c_types_looker_clauses_1.ok = true := by kernel_rfl
def gt (l : List TypT) (i : Nat) : TypT := l.getD i typ0
theorem at_gt {l : List TypT} {i : Nat} (h : i < l.length) : l[i]? = some (gt l i) := by simp [gt, List.getD_eq_getElem?_getD, h]
theorem visE_cons (v : TypT) (l : List TypT) : visE (v :: l) = (visE l).put v := by
 funext n
 simp only [visE, Sc.put, List.find?_cons]
 by_cases h : n = v.name
 ·simp [h]
 ·have : ¬ v.name = n := fun e => h e.symm
  simp [h, this]
section heap
variable {G0 G : LHeap} {K : LV → LHeap → Prop}
theorem back_any {v : LV} (hv : v = .nilSl ∨ ∃ q kk, v = .dy q kk) (k : K (.fn (.func 54) [] [.ptr G.length 0]) (G ++ [.cells [v] 0])) : CallL Try.prog (.fn 39) [v] G K := by
 refine call_body r_slices_Backward_api_Typed_api_Typed k_slices_Backward_api_Typed_api_Typed (by simp) ?_
 rcases hv with rfl | ⟨q, kk, rfl⟩
 ·simp [c_slices_Backward_api_Typed_api_Typed]
  exact k
 ·simp [c_slices_Backward_api_Typed_api_Typed]
  exact k
theorem back_iter {b : Nat} {v : LV} {all : List TypT} (hal : all.length ≤ 1000000000) : IterS Try.prog 54 [] [.ptr b 0] (fun G => (∃ s, G[b]? = some (.cells [v] s)) ∧ RowT G v all) all.length (fun i => [.i (all.length - 1 - i : Nat), .agg (gt all (all.length - 1 - i)).f]) := by
 intro t J B G K hJ h0 hstep hend hbrk
 refine call_body r_slices_Backward_api_Typed_api_Typed_1 k_slices_Backward_api_Typed_api_Typed_1 (by simp) ?_
 obtain ⟨⟨s0, g1⟩, r1⟩ := hJ 0 G h0
 rcases r1 with ⟨rfl, rfl⟩ | ⟨q, kk, st, rfl, hq⟩
 ·simp [c_slices_Backward_api_Typed_api_Typed_1, g1]
  refine loop_nx (fun ρ D G' N => D = [] ∧ G' = G ∧ lk ρ 3 = .i (-1)) (N := 0) ⟨rfl, rfl, by simp⟩ ?_
  rintro N ρ D G' ⟨rfl, rfl, h3⟩ Nx hNx
  simp [h3]
  exact hend _ h0
 simp [c_slices_Backward_api_Typed_api_Typed_1, g1, hq]
 refine ⟨by omega, ?_⟩
 refine loop_nx (fun ρ D G' N => ∃ i : Nat, D = [] ∧ N + i = all.length ∧ lk ρ 0 = .fn (.yield t) [] [] ∧ lk ρ 1 = .ptr b 0 ∧ lk ρ 3 = .i ((all.length : Int) - 1 - i) ∧ J i G') (N := all.length) ⟨0, rfl, by omega, by simp, by simp, by simp, h0⟩ ?_
 rintro N ρ D G' ⟨i, rfl, hN, e0, e1, e3, hj⟩ Nx hNx
 obtain ⟨⟨s1, g2⟩, r2⟩ := hJ i G' hj
 by_cases hz : N = 0
 ·have hi : i = all.length := by omega
  subst hi
  have c1 : ¬ (all.length : Int) ≤ (all.length : Int) - 1 := by omega
  simp [e3, c1]
  exact hend _ hj
 obtain ⟨m, hm⟩ : ∃ m : Nat, m = all.length - 1 - i := ⟨_, rfl⟩
 have hmi : (all.length : Int) - 1 - i = m := by omega
 rw [hmi] at e3
 have hml : m < all.length := by omega
 rcases r2 with ⟨h, _⟩ | ⟨q2, k2, st2, hv2, hq2⟩
 ·cases h
 cases hv2
 have q3 : ((typC all).drop (m * 3)).take 3 = (gt all m).f := fm_take TypT.f_len (at_gt hml)
 have hq3 : m * 3 + 3 ≤ (typC all).length := fm_lt TypT.f_len hml
 simp [e0, e1, e3, g2, hq2, hml, q3, hq3]
 have hs := hstep i G'
 dsimp only at hs
 rw [← hm] at hs
 refine hs _ (by omega) hj (fun G2 hj' => ?_) (fun G2 hb => ?_)
 ·simp [e3]
  refine ⟨by omega, hNx _ _ _ ⟨N - 1, by omega, i + 1, rfl, by omega, by simp [e0], by simp [e1], by simp; omega, hj'⟩⟩
 ·simp
  exact hbrk _ hb
theorem visible_any {v : LV} {all : List TypT} (hr : RowT G v all) (hal : all.length ≤ 1000000000) (k : ∀ G' m es ck st, scF es = visE all → G.length ≤ m → G'[m]? = some (.map (scM es) ck st) → Ext G G' → K (.map m) G') : CallL Try.prog (.fn 25) [v] G K := by
 refine call_body r_types_visible k_types_visible (by simp) ?_
 have hvc : v = .nilSl ∨ ∃ q kk, v = .dy q kk := by rcases hr with ⟨rfl, _⟩ | ⟨q, kk, _, rfl, _⟩; exact .inl rfl; exact .inr ⟨q, kk, rfl⟩
 simp [c_types_visible]
 refine back_any hvc ?_
 simp
 obtain ⟨G1, hG1⟩ : ∃ G1, G1 = G ++ [LObj.map [] 0 0, .cells [.map G.length] 1, .cells [v] 0] := ⟨_, rfl⟩
 have l1 : G1.length = G.length + 3 := by rw [hG1]; simp
 have e1 : Ext G G1 := by rw [hG1]; exact Ext.app _ _
 have m1 : G1[G.length]? = some (.map [] 0 0) := by rw [hG1]; simp
 have c1 : G1[G.length + 1]? = some (.cells [.map G.length] 1) := by rw [hG1]; simp
 have b1 : G1[G.length + 2]? = some (.cells [v] 0) := by rw [hG1]; simp
 rw [← hG1]
 refine W_iterA (fn' := 54) (first := []) (cap := [.ptr (G.length + 2) 0]) (by simp) (back_iter (b := G.length + 2) (v := v) hal) rfl rfl (fun _ => rfl) (by simp)
  (fun i G' => (∃ s, G'[G.length + 2]? = some (.cells [v] s)) ∧ (∃ es ck st, G'[G.length]? = some (.map (scM es) ck st) ∧ scF es = visE (all.drop (all.length - i))) ∧ (∃ s, G'[G.length + 1]? = some (.cells [.map G.length] s)) ∧ Ext G G') (fun _ _ => False)
  (fun i G' h => ⟨h.1, hr.ext h.2.2.2⟩) ?_ ?_ (fun _ _ _ h => h) ?_ ?_ (fun _ _ h => h.elim)
 ·intro x y
  exact ⟨⟨_, (Ext.app G1 _).at_ b1⟩, ⟨[], 0, 0, (Ext.app G1 _).at_ m1, by simp [scF, visE]; rfl⟩, ⟨_, (Ext.app G1 _).at_ c1⟩, e1.trans (Ext.app _ _)⟩
 ·rintro i G' x ⟨⟨s, h1⟩, ⟨es, ck, st, h2, h3⟩, ⟨s2, h4⟩, h5⟩
  have ne : ∀ z, z < G.length + 3 → (G'.set (G1.length + 1) x)[z]? = G'[z]? := fun z hz => List.getElem?_set_ne (by omega)
  exact ⟨⟨s, by rw [ne _ (by omega)]; exact h1⟩, ⟨es, ck, st, by rw [ne _ (by omega)]; exact h2, h3⟩, ⟨s2, by rw [ne _ (by omega)]; exact h4⟩, ⟨by rw [List.length_set]; exact h5.1, fun z hz => by rw [ne _ (by omega)]; exact h5.2 z hz⟩⟩
 ·rintro i G2 Lr Lb hi ⟨⟨s, h1⟩, ⟨es, ck, st, h2, h3⟩, ⟨s2, h4⟩, h5⟩ hL hD
  obtain ⟨j, hj⟩ : ∃ j, j = all.length - 1 - i := ⟨_, rfl⟩
  rw [← hj]
  have hjl : j < all.length := by omega
  have hdr : all.drop (all.length - (i + 1)) = gt all j :: all.drop (all.length - i) := by
   rw [show all.length - (i + 1) = j by omega, List.drop_eq_getElem_cons hjl, show j + 1 = all.length - i by omega]
   have := at_gt hjl; rw [List.getElem?_eq_getElem hjl] at this; rw [Option.some.inj this]
  have hvs : visE (all.drop (all.length - (i + 1))) = (visE (all.drop (all.length - i))).put (gt all j) := by rw [hdr, visE_cons]
  generalize gt all j = x at *
  have lL := (List.getElem?_eq_some_iff.1 hL).1
  have put1 : ∀ KB, putL .string (.str x.name) (.agg [.str x.name, .bool x.sec, .i x.mode]) ck KB (scM es) = KB (scM (scPut x.name x ck es)) (scF es x.name).isNone := fun KB => put_sc (v := x) es
  simp [setPsL, TypT.f, ↓oldP lL, hL]
  obtain ⟨G3, hG3⟩ : ∃ G3, G3 = (G2 ++ [LObj.cells [.str x.name, .bool x.sec, .i x.mode] 1]).set (G1.length + 1) Lb := ⟨_, rfl⟩
  have ne : ∀ z, z ≠ G1.length + 1 → z < G2.length → G3[z]? = G2[z]? := fun z hz hl => by rw [hG3, List.getElem?_set_ne (fun e => hz e.symm), oldP hl]
  have k2 := (ne G.length (by omega) (List.getElem?_eq_some_iff.1 h2).1).trans h2
  have k4 := (ne (G.length + 1) (by omega) (List.getElem?_eq_some_iff.1 h4).1).trans h4
  have k1 := (ne (G.length + 2) (by omega) (List.getElem?_eq_some_iff.1 h1).1).trans h1
  have kD := (ne G1.length (by omega) (List.getElem?_eq_some_iff.1 hD).1).trans hD
  have kL : G3[G1.length + 1]? = some Lb := by rw [hG3, List.getElem?_set_self (by simp; omega)]
  have kx : G3[G2.length]? = some (.cells [.str x.name, .bool x.sec, .i x.mode] 1) := by rw [hG3, List.getElem?_set_ne (by omega)]; simp
  have lm3 := (List.getElem?_eq_some_iff.1 k2).1
  have l3 : G2.length ≤ G3.length := by rw [hG3]; simp
  rw [← hG3]
  simp [k4, k2, kx, put1]
  have nz : ∀ (z : Nat) (y : LObj), z ≠ G.length → (G3.set G.length y)[z]? = G3[z]? := fun z y h => List.getElem?_set_ne (fun e => h e.symm)
  unfold setK
  refine ⟨by rw [nz _ _ (by omega)]; exact kL, by rw [nz _ _ (by omega)]; exact kD, ⟨s, by rw [nz _ _ (by omega)]; exact k1⟩, ⟨scPut x.name x ck es, ⟨_, _, List.getElem?_set_self lm3⟩, by rw [scF_put rfl, h3, hvs]⟩, ⟨s2, by rw [nz _ _ (by omega)]; exact k4⟩, ⟨by rw [List.length_set]; exact Nat.le_trans h5.1 l3, fun z hz => ?_⟩⟩
  rw [nz _ _ (by omega), ne z (by omega) (by have := h5.1; omega)]
  exact h5.2 z hz
 ·rintro G' ⟨_, ⟨es, ck, st, h2, h3⟩, ⟨s2, h4⟩, h5⟩ hD
  simp [h4, hD]
  rw [Nat.sub_self, List.drop_zero] at h3
  refine k _ G.length es ck st h3 (Nat.le_refl _) ?_ ⟨by rw [List.length_set]; exact h5.1, fun z hz => ?_⟩
  ·rw [List.getElem?_set_ne (by omega)]; exact h2
  ·rw [List.getElem?_set_ne (by omega)]; exact h5.2 z hz
theorem clauses_1_any {c st p ck pst : Nat} {es : Ens} (hc : G0[c]? = some (.cells [.map p] st)) (hp : G0[p]? = some (.map (scM es) ck pst)) (n : Str) : Prd Try.prog 36 [] [.ptr c 0] (.str n) G0 (decide (((scF es).at_ n).mode = 3)) := by
 intro G1 hE K k
 refine call_body r_types_looker_clauses_1 k_types_looker_clauses_1 (by simp) ?_
 have hc1 := hE.at_ hc
 have hp1 := hE.at_ hp
 simp [c_types_looker_clauses_1, hc1, hp1, find_sc, lookK_at]
 exact k _ (Ext.refl _)
theorem claE_cut {all : List TypT} {rq : Bool} {l : List ClaT} {i : Nat} {c : ClaT} (h : l[i]? = some c) : clasE all rq (l.drop i) = if claE all rq c ≠ 0 then claE all rq c else clasE all rq (l.drop (i + 1)) := by
 have hi := (List.getElem?_eq_some_iff.1 h).1
 rw [List.drop_eq_getElem_cons hi]
 have : l[i] = c := by have := List.getElem?_eq_getElem hi; rw [h] at this; exact (Option.some.inj this).symm
 rw [this, clasE]
end heap
end Go.Proofs.Ytcbbilifblbblaa
