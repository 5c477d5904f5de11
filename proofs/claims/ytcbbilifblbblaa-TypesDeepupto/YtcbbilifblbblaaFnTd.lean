/- What is let be, made, swapped, walked. -/
import Derived.Test.YtcbbilifblbblaaFnTc
namespace Go.Proofs.Ytcbbilifblbblaa
open Go.Sv
set_option linter.unusedSimpArgs false
set_option linter.unusedVariables false
set_option maxRecDepth 10000
def c_slices_IndexFunc_api_Typed_api_Typed : LC := (.seq (.ops [.z 4 (.move (.c (.i 0)))]) (.seq (.seq (.ops [.m 6 0,.z 7 (.lenSl (.t 6)),.z 8 (.move (.c (.i 0)))]) (.block 0 (.loop (.seq (.ops [.z 9 (.bin .lss false 3 (.t 8) (.t 7))]) (.seq (.cond (.t 9) .skip (.exit 0)) (.seq (.block 1 (.seq (.ops [.m 10 8,.m 5 10]) (.seq (.ops [.m 11 1,.m 12 0,.m 13 5,.z 14 (.ixAddr 3 (.t 12) (.t 13)),.z 15 (.loadN 3 (.t 14)),.z 16 (.callV (.t 11) [.t 15])]) (.cond (.t 16) (.seq (.ops [.m 17 5,.m 4 17]) .ret) .skip)))) (.ops [.z 18 (.bin .add true 3 (.t 8) (.c (.i 1))),.m 8 18]))))))) (.seq (.ops [.z 4 (.move (.c (.i (-1))))]) .ret)))
theorem r_slices_IndexFunc_api_Typed_api_Typed : resFn Try.prog 45 = some ⟨19, c_slices_IndexFunc_api_Typed_api_Typed.r, [.tmp 4]⟩ := by kernel_rfl
theorem k_slices_IndexFunc_api_Typed_api_Typed : c_slices_IndexFunc_api_Typed_api_Typed.ok = true := by kernel_rfl
def c_slices_ContainsFunc_api_Typed_api_Typed : LC := (.seq (.ops [.z 4 (.move (.c (.bool false)))]) (.seq (.ops [.m 5 0,.m 6 1,.z 7 (.callV (.c (.fn (.func 45) [] [])) [.t 5,.t 6]),.z 8 (.bin .geq true 3 (.t 7) (.c (.i 0))),.m 4 8]) .ret))
theorem r_slices_ContainsFunc_api_Typed_api_Typed : resFn Try.prog 31 = some ⟨9, c_slices_ContainsFunc_api_Typed_api_Typed.r, [.tmp 4]⟩ := by kernel_rfl
theorem k_slices_ContainsFunc_api_Typed_api_Typed : c_slices_ContainsFunc_api_Typed_api_Typed.ok = true := by kernel_rfl
def c_types_looker_let : LC := (.seq (.ops [.z 5 (.box (.t 2)),.z 6 (.move (.c (.i 0)))]) (.seq (.ops [.m 9 1,.f 10 0 5,.f 11 4 10,.z 12 (.loadN 2 (.t 11)),.z 13 (.callV (.c (.fn (.func 63) [] [])) [.t 9,.t 12]),.m 7 13]) (.seq (.block 0 (.seq (.draw [(.m 15 0,[]),(.z 16 (.nilChk (.t 15)),[]),(.f 17 0 16,[]),(.f 18 1 17,[]),(.l 19 18,[]),(.f 20 0 5,[]),(.f 21 1 20,[]),(.l 22 21,[]),(.z 23 (.callV (.c (.fn (.func 30) [] [])) [.t 19,.t 22]),[]),(.m 24 23,[]),(⟨some 25,(some (24,false)),.move (.t 0)⟩,[]),(⟨some 26,(some (24,false)),.nilChk (.t 25)⟩,[]),(⟨some 27,(some (24,false)),.fieldAddr 7 (.t 26)⟩,[]),(⟨some 28,(some (24,false)),.load1 (.t 27)⟩,[]),(⟨some 29,(some (24,false)),.mkFunc 64 [] [.t 5]⟩,[]),(⟨some 30,(some (24,false)),.callV (.c (.fn (.func 31) [] [])) [.t 28,.t 29]⟩,[]),(.z 31 (.pick (.t 24) (.c (.bool true)) (.t 30)),[]),(.m 14 31,[])]) (.cond (.t 14) (.seq (.ops [.z 6 (.move (.c (.i 6)))]) .ret) (.seq (.draw [(.f 33 0 5,[]),(.f 34 2 33,[]),(.z 35 (.loadN 2 (.t 34)),[]),(.m 36 0,[]),(.z 37 (.nilChk (.t 36)),[]),(.f 38 0 37,[]),(.f 39 1 38,[]),(.l 40 39,[]),(.z 41 (.callV (.c (.fn (.func 33) [] [])) [.t 35,.t 40]),[]),(.m 32 41,[])]) (.cond (.t 32) (.seq (.ops [.z 6 (.move (.c (.i 5)))]) .ret) (.seq (.ops [.m 43 7,.z 44 (.bin .neq true 24 (.t 43) (.c (.i 0))),.m 42 44]) (.cond (.t 42) (.seq (.ops [.m 45 7,.m 6 45]) .ret) .skip))))))) (.seq (.draw [(.f 46 0 5,[]),(.f 47 1 46,[]),(.l 48 47,[]),(.m 49 1,[]),(.f 50 0 5,[]),(.f 51 4 50,[]),(.z 52 (.loadN 2 (.t 51)),[]),(.z 8 (.alloc [(.str []),(.bool false),(.i 0)]),[(.z 52 (.loadN 2 (.t 51)),false),(.l 48 47,false)]),(.z 53 (.callV (.c (.fn (.func 65) [] [])) [.t 49,.t 52]),[(.z 8 (.alloc [(.str []),(.bool false),(.i 0)]),true),(.l 48 47,false)]),(.z 54 (.build [(.str []),(.bool false),(.i 0)] [(0,1,.t 48),(1,1,.t 53)]),[]),(⟨none,none,.store 3 (.t 8) (.t 54)⟩,[])]) (.seq (.draw [(.m 55 0,[]),(.m 56 0,[]),(.z 57 (.nilChk (.t 56)),[]),(.f 58 7 57,[]),(.l 59 58,[]),(.z 60 (.loadN 3 (.t 8)),[]),(.z 61 (.buildSl 3 1 [(.str []),(.bool false),(.i 0)] [(0,3,.t 60)]),[(.z 60 (.loadN 3 (.t 8)),false),(.l 59 58,false)]),(.z 62 (.appG 3 (.t 59) (.t 61)),[]),(.z 63 (.nilChk (.t 55)),[]),(.f 64 7 63,[]),(⟨none,none,.store 1 (.t 64) (.t 62)⟩,[])]) (.seq (.ops [.m 65 1,.f 66 0 5,.f 67 1 66,.l 68 67,.z 69 (.loadN 3 (.t 8)),⟨none,none,.mapUpd .string (.t 65) (.t 68) (.t 69)⟩]) (.seq (.ops [.z 6 (.move (.c (.i 0)))]) .ret)))))))
theorem r_types_looker_let : resFn Try.prog 50 = some ⟨70, c_types_looker_let.r, [.tmp 6]⟩ := by kernel_rfl
theorem k_types_looker_let : c_types_looker_let.ok = true := by kernel_rfl
def c_types_looker_let_1 : LC := (.seq (.ops [.z 2 (.box (.t 0)),.z 3 (.move (.c (.bool false)))]) (.seq (.ops [.f 4 0 2,.l 5 4,.f 6 0 1,.f 7 1 6,.l 8 7,.z 9 (.bin .eql false 9 (.t 5) (.t 8)),.m 3 9]) .ret))
theorem r_types_looker_let_1 : resFn Try.prog 64 = some ⟨10, c_types_looker_let_1.r, [.tmp 3]⟩ := by kernel_rfl
theorem k_types_looker_let_1 : c_types_looker_let_1.ok = true := by kernel_rfl
def c_types_scope_set : LC := (.seq (.ops [.z 3 (.box (.t 1)),.z 4 (.move (.c (.i 0)))]) (.seq (.ops [.m 9 0,.f 10 0 3,.f 11 1 10,.l 12 11,.z 13 (.lookup .string (.agg [(.str []),(.bool false),(.i 0)]) true (.t 9) (.t 12)),.m 8 13,.z 14 (.extract 0 (.t 8)),.z 15 (.extract 1 (.t 8)),.z 5 (.alloc [(.str []),(.bool false),(.i 0)]),⟨none,none,.store 3 (.t 5) (.t 14)⟩,.m 6 15]) (.seq (.ops [.m 16 0,.f 17 0 3,.f 18 4 17,.z 19 (.loadN 2 (.t 18)),.z 20 (.callV (.c (.fn (.func 63) [] [])) [.t 16,.t 19]),.m 7 20]) (.seq (.block 0 (.seq (.ops [.m 22 6,.z 23 (.un .not (.t 22)),.m 21 23]) (.cond (.t 21) (.seq (.ops [.z 4 (.move (.c (.i 5)))]) .ret) (.seq (.ops [.z 25 (.loadN 3 (.t 5)),.z 26 (.callV (.c (.fn (.func 66) [] [])) [.t 25]),.m 24 26]) (.cond (.t 24) (.seq (.ops [.z 4 (.move (.c (.i 2)))]) .ret) (.seq (.ops [.m 28 7,.z 29 (.bin .neq true 24 (.t 28) (.c (.i 0))),.m 27 29]) (.cond (.t 27) (.seq (.ops [.m 30 7,.m 4 30]) .ret) (.seq (.ops [.f 32 1 5,.l 33 32,.z 34 (.un .not (.t 33)),.m 35 34,⟨some 36,(some (35,true)),.move (.t 0)⟩,⟨some 37,(some (35,true)),.fieldAddr 0 (.t 3)⟩,⟨some 38,(some (35,true)),.fieldAddr 4 (.t 37)⟩,⟨some 39,(some (35,true)),.loadN 2 (.t 38)⟩,⟨some 40,(some (35,true)),.callV (.c (.fn (.func 65) [] [])) [.t 36,.t 39]⟩,.z 41 (.pick (.t 35) (.t 40) (.c (.bool false))),.m 31 41]) (.cond (.t 31) (.seq (.ops [.z 4 (.move (.c (.i 12)))]) .ret) .skip))))))))) (.seq (.ops [.z 4 (.move (.c (.i 0)))]) .ret)))))
theorem r_types_scope_set : resFn Try.prog 51 = some ⟨42, c_types_scope_set.r, [.tmp 4]⟩ := by kernel_rfl
theorem k_types_scope_set : c_types_scope_set.ok = true := by kernel_rfl
def c_types_scope_swap : LC := (.seq (.ops [.z 3 (.box (.t 1)),.z 4 (.move (.c (.i 0)))]) (.seq (.seq (.ops [.f 8 0 3,.f 9 6 8,.l 10 9,.z 11 (.lenSl (.t 10)),.z 12 (.bin .neq true 3 (.t 11) (.c (.i 3)))]) (.cond (.t 12) (.seq (.ops [.z 4 (.move (.c (.i 2)))]) .ret) .skip)) (.seq (.seq (.ops [.f 13 0 3,.f 14 6 13,.l 15 14,.m 16 0,.z 17 (.mkFunc 35 [.t 16] []),.z 18 (.callV (.c (.fn (.func 34) [] [])) [.t 15,.t 17])]) (.cond (.t 18) (.seq (.ops [.z 4 (.move (.c (.i 5)))]) .ret) .skip)) (.seq (.draw [(.m 19 0,[]),(.f 20 0 3,[]),(.f 21 6 20,[]),(.l 22 21,[]),(.z 23 (.ixAddr 1 (.t 22) (.c (.i 0))),[]),(.l 24 23,[]),(.z 25 (.lookup .string (.agg [(.str []),(.bool false),(.i 0)]) false (.t 19) (.t 24)),[]),(.m 26 0,[]),(.f 27 0 3,[]),(.f 28 6 27,[]),(.l 29 28,[]),(.z 30 (.ixAddr 1 (.t 29) (.c (.i 1))),[]),(.l 31 30,[]),(.z 32 (.lookup .string (.agg [(.str []),(.bool false),(.i 0)]) false (.t 26) (.t 31)),[]),(.m 33 0,[]),(.f 34 0 3,[]),(.f 35 6 34,[]),(.l 36 35,[]),(.z 37 (.ixAddr 1 (.t 36) (.c (.i 2))),[]),(.l 38 37,[]),(.z 39 (.lookup .string (.agg [(.str []),(.bool false),(.i 0)]) false (.t 33) (.t 38)),[]),(.z 5 (.alloc [(.str []),(.bool false),(.i 0)]),[(.z 39 (.lookup .string (.agg [(.str []),(.bool false),(.i 0)]) false (.t 33) (.t 38)),false),(.l 38 37,false),(.l 36 35,false),(.z 32 (.lookup .string (.agg [(.str []),(.bool false),(.i 0)]) false (.t 26) (.t 31)),false),(.l 31 30,false),(.l 29 28,false),(.z 25 (.lookup .string (.agg [(.str []),(.bool false),(.i 0)]) false (.t 19) (.t 24)),false),(.l 24 23,false),(.l 22 21,false)]),(.z 6 (.alloc [(.str []),(.bool false),(.i 0)]),[(.z 5 (.alloc [(.str []),(.bool false),(.i 0)]),true),(.z 39 (.lookup .string (.agg [(.str []),(.bool false),(.i 0)]) false (.t 33) (.t 38)),false),(.l 38 37,false),(.l 36 35,false),(.z 32 (.lookup .string (.agg [(.str []),(.bool false),(.i 0)]) false (.t 26) (.t 31)),false),(.l 31 30,false),(.l 29 28,false),(.z 25 (.lookup .string (.agg [(.str []),(.bool false),(.i 0)]) false (.t 19) (.t 24)),false),(.l 24 23,false),(.l 22 21,false)]),(.z 7 (.alloc [(.str []),(.bool false),(.i 0)]),[(.z 6 (.alloc [(.str []),(.bool false),(.i 0)]),true),(.z 5 (.alloc [(.str []),(.bool false),(.i 0)]),true),(.z 39 (.lookup .string (.agg [(.str []),(.bool false),(.i 0)]) false (.t 33) (.t 38)),false),(.l 38 37,false),(.l 36 35,false),(.z 32 (.lookup .string (.agg [(.str []),(.bool false),(.i 0)]) false (.t 26) (.t 31)),false),(.l 31 30,false),(.l 29 28,false),(.z 25 (.lookup .string (.agg [(.str []),(.bool false),(.i 0)]) false (.t 19) (.t 24)),false),(.l 24 23,false),(.l 22 21,false)]),(⟨none,none,.store 3 (.t 5) (.t 25)⟩,[(.z 39 (.lookup .string (.agg [(.str []),(.bool false),(.i 0)]) false (.t 33) (.t 38)),false),(.l 38 37,false),(.l 36 35,false),(.z 32 (.lookup .string (.agg [(.str []),(.bool false),(.i 0)]) false (.t 26) (.t 31)),false),(.l 31 30,false),(.l 29 28,false)]),(⟨none,none,.store 3 (.t 6) (.t 32)⟩,[(.z 39 (.lookup .string (.agg [(.str []),(.bool false),(.i 0)]) false (.t 33) (.t 38)),false),(.l 38 37,false),(.l 36 35,false)]),(⟨none,none,.store 3 (.t 7) (.t 39)⟩,[])]) (.seq (.block 0 (.seq (.draw [(.f 41 0 3,[]),(.f 42 6 41,[]),(.l 43 42,[]),(.z 44 (.ixAddr 1 (.t 43) (.c (.i 1))),[]),(.l 45 44,[]),(.f 46 0 3,[]),(.f 47 6 46,[]),(.l 48 47,[]),(.z 49 (.ixAddr 1 (.t 48) (.c (.i 2))),[]),(.l 50 49,[]),(.z 51 (.bin .eql false 9 (.t 45) (.t 50)),[]),(.m 52 51,[]),(⟨some 53,(some (52,false)),.loadN 3 (.t 6)⟩,[]),(⟨some 54,(some (52,false)),.callV (.c (.fn (.func 66) [] [])) [.t 53]⟩,[]),(.z 55 (.pick (.t 52) (.c (.bool true)) (.t 54)),[]),(.m 56 55,[]),(⟨some 57,(some (56,false)),.loadN 3 (.t 7)⟩,[]),(⟨some 58,(some (56,false)),.callV (.c (.fn (.func 66) [] [])) [.t 57]⟩,[]),(.z 59 (.pick (.t 56) (.c (.bool true)) (.t 58)),[]),(.m 40 59,[])]) (.cond (.t 40) (.seq (.ops [.z 4 (.move (.c (.i 2)))]) .ret) (.seq (.ops [.f 61 1 5,.l 62 61,.m 63 62,⟨some 64,(some (63,false)),.fieldAddr 1 (.t 6)⟩,⟨some 65,(some (63,false)),.load1 (.t 64)⟩,.z 66 (.pick (.t 63) (.c (.bool true)) (.t 65)),.m 67 66,⟨some 68,(some (67,false)),.fieldAddr 1 (.t 7)⟩,⟨some 69,(some (67,false)),.load1 (.t 68)⟩,.z 70 (.pick (.t 67) (.c (.bool true)) (.t 69)),.m 71 70,⟨some 72,(some (71,true)),.fieldAddr 1 (.t 6)⟩,⟨some 73,(some (71,true)),.load1 (.t 72)⟩,⟨some 74,(some (71,true)),.move (.t 73)⟩,⟨some 75,(some (74,true)),.fieldAddr 1 (.t 7)⟩,⟨some 76,(some (74,true)),.load1 (.t 75)⟩,⟨some 77,(some (71,true)),.pick (.t 74) (.t 76) (.c (.bool false))⟩,⟨some 78,(some (71,true)),.un .not (.t 77)⟩,.z 79 (.pick (.t 71) (.t 78) (.c (.bool false))),.m 60 79]) (.cond (.t 60) (.seq (.ops [.z 4 (.move (.c (.i 12)))]) .ret) .skip))))) (.seq (.ops [.z 4 (.move (.c (.i 0)))]) .ret))))))
theorem r_types_scope_swap : resFn Try.prog 52 = some ⟨80, c_types_scope_swap.r, [.tmp 4]⟩ := by kernel_rfl
theorem k_types_scope_swap : c_types_scope_swap.ok = true := by kernel_rfl
def RowT (G : LHeap) (v : LV) (all : List TypT) : Prop := (v = .nilSl ∧ all = []) ∨ ∃ q k st, v = .dy q k ∧ G[q]? = some (.dyn (typC all) all.length 3 k st)
def Lkr (G : LHeap) (c : Nat) (p : PrcT) (ah : List PrcT) (all : List TypT) : Prop :=
 ∃ st v, G[c]? = some (.cells [.str p.name, .lst (strC p.lens) p.lens.length 1, .lst (parC p.params) p.params.length 4, .lst (claC p.req) p.req.length 3, .lst (claC p.ens) p.ens.length 3, .lst (stC p.body) p.body.length 9, .lst (prcC ah) ah.length 6, v] st) ∧ RowT G v all
def no3 (o : LObj) : Prop := ∀ R m k st, o ≠ .dyn R m 3 k st
def Frm (c s : Nat) (G G' : LHeap) : Prop := G.length ≤ G'.length ∧ ∀ z o, G[z]? = some o → z ≠ c → z ≠ s → no3 o → G'[z]? = some o
theorem Frm.trans {c s : Nat} {A B C : LHeap} (h : Frm c s A B) (k : Frm c s B C) : Frm c s A C := ⟨Nat.le_trans h.1 k.1, fun z o hz h1 h2 h3 => k.2 z o (h.2 z o hz h1 h2 h3) h1 h2 h3⟩
theorem Ext.frm {c s : Nat} {G G' : LHeap} (h : Ext G G') : Frm c s G G' := ⟨h.1, fun z o hz _ _ _ => h.at_ hz⟩
theorem RowT.ext {G G' : LHeap} {v : LV} {all : List TypT} (h : RowT G v all) (e : Ext G G') : RowT G' v all := by
 rcases h with h | ⟨q, k, st, hv, hq⟩
 ·exact .inl h
 ·exact .inr ⟨q, k, st, hv, e.at_ hq⟩
theorem Lkr.ext {G G' : LHeap} {c : Nat} {p : PrcT} {ah : List PrcT} {all : List TypT} (h : Lkr G c p ah all) (e : Ext G G') : Lkr G' c p ah all := by
 obtain ⟨st, v, h1, h2⟩ := h
 exact ⟨st, v, e.at_ h1, h2.ext e⟩
theorem typC_app (a b : List TypT) : typC (a ++ b) = typC a ++ typC b := by simp [typC]
section heap
variable {G0 G : LHeap} {K : LV → LHeap → Prop} {g : Nat} {fs cap : List LV}
theorem RowT.push {v : LV} {all : List TypT} (h : RowT G v all) (x : TypT) (hn : all.length ≤ 1000000000)
  (k : ∀ (v' : LV) (G' : LHeap), RowT G' v' (all ++ [x]) → (∀ (z : Nat) (o : LObj), G[z]? = some o → no3 o → G'[z]? = some o) → G.length ≤ G'.length → K v' G') : appL G 3 v 1 [.str x.name, .bool x.sec, .i x.mode] K := by
 have hx : typC (all ++ [x]) = typC all ++ [.str x.name, .bool x.sec, .i x.mode] := by rw [typC_app]; simp [typC, TypT.f]
 rcases h with ⟨rfl, rfl⟩ | ⟨q, kk, st, rfl, hq⟩
 ·rw [appL_nil]
  refine k _ _ (.inr ⟨G.length, 0, 0, rfl, ?_⟩) (fun z o hz _ => ?_) (by simp)
  ·rw [hx]; simp [typC]
  ·rw [List.getElem?_append_left (List.getElem?_eq_some_iff.1 hz).1]; exact hz
 ·rw [appL_dy, hq]
  have hl := (List.getElem?_eq_some_iff.1 hq).1
  refine ⟨rfl, ⟨rfl, by decide⟩, hn, k _ _ (.inr ⟨q, kk + 1, st + 1, rfl, ?_⟩) (fun z o hz h3 => ?_) (by simp)⟩
  ·rw [List.getElem?_set_self hl, hx]; simp
  ·rw [List.getElem?_set_ne (fun e => by subst e; rw [hq] at hz; exact h3 _ _ _ _ (Option.some.inj hz).symm)]; exact hz
theorem IxTyp_any {q' : TypT → Bool} {v : LV} (l : List TypT) (hl : l.length ≤ 9223372036854775807) (hr : RowT G0 v l) (hG : Ext G0 G) (hq' : ∀ a ∈ l, Prd Try.prog g fs cap (.agg a.f) G0 (q' a)) (k : ∀ G', Ext G G' → K (.i (ixZ q' l)) G') :
  CallL Try.prog (.fn 45) [v, .fn (.func g) fs cap] G K := by
 refine call_body r_slices_IndexFunc_api_Typed_api_Typed k_slices_IndexFunc_api_Typed_api_Typed (by simp) ?_
 rcases hr with ⟨rfl, rfl⟩ | ⟨z, kk, st, rfl, hz⟩
 ·simp [c_slices_IndexFunc_api_Typed_api_Typed]
  refine loop_nx (fun ρ D G' N => D = [] ∧ G' = G ∧ lk ρ 7 = .i 0 ∧ lk ρ 8 = .i 0) (N := 0) ⟨rfl, rfl, by simp, by simp⟩ ?_
  rintro N ρ D G' ⟨rfl, rfl, h7, h8⟩ Nx hNx
  simp [h7, h8]
  exact k G' (Ext.refl _)
 ·have hz1 := hG.at_ hz
  simp [c_slices_IndexFunc_api_Typed_api_Typed, hz1]
  refine loop_nx (fun ρ D G' N => ∃ i : Nat, D = [] ∧ N + i = l.length ∧ lk ρ 0 = .dy z kk ∧ lk ρ 1 = .fn (.func g) fs cap ∧ lk ρ 7 = .i l.length ∧ lk ρ 8 = .i i ∧ Ext G G' ∧ ∀ j b, j < i → l[j]? = some b → q' b = false) (N := l.length)
   ⟨0, rfl, by omega, by simp, by simp, by simp, by simp, Ext.refl G, fun j b hj => by omega⟩ ?_
  rintro N ρ D G' ⟨i, rfl, hN, h0, h1, h7, h8, hE, hn⟩ Nx hNx
  have hz2 := hE.at_ hz1
  by_cases gi : i < l.length
  ·obtain ⟨a, ha⟩ : ∃ a, l[i]? = some a := ⟨_, List.getElem?_eq_getElem gi⟩
   have q : ((typC l).drop (i * 3)).take 3 = a.f := fm_take TypT.f_len ha
   have hq : i * 3 + 3 ≤ (typC l).length := fm_lt TypT.f_len gi
   simp [h0, h1, h7, h8, gi, hz2, q, hq]
   refine hq' a (List.mem_iff_getElem?.2 ⟨i, ha⟩) G' (hG.trans hE) _ fun G2 hE2 => ?_
   cases hb : q' a with
   | true =>
    simp
    rw [← ixZ_at ha hb hn]
    exact k G2 (hE.trans hE2)
   | false =>
    simp [h8]
    refine ⟨by omega, hNx _ _ _ ⟨N - 1, by omega, i + 1, rfl, by omega, by simp [h0], by simp [h1], by simp [h7], by simp, hE.trans hE2, fun j b hj hjb => ?_⟩⟩
    by_cases e : j = i
    ·subst e; rw [ha] at hjb; cases hjb; exact hb
    ·exact hn j b (by omega) hjb
  ·simp [h0, h1, h7, h8, gi]
   rw [← ixZ_none (Nat.le_of_not_lt gi) hn]
   exact k G' hE
theorem HasTyp_any {q' : TypT → Bool} {v : LV} (l : List TypT) (hl : l.length ≤ 9223372036854775807) (hr : RowT G0 v l) (hG : Ext G0 G) (hq' : ∀ a ∈ l, Prd Try.prog g fs cap (.agg a.f) G0 (q' a)) (k : ∀ G', Ext G G' → K (.bool (l.any q')) G') :
  CallL Try.prog (.fn 31) [v, .fn (.func g) fs cap] G K := by
 refine call_body r_slices_ContainsFunc_api_Typed_api_Typed k_slices_ContainsFunc_api_Typed_api_Typed (by simp) ?_
 simp [c_slices_ContainsFunc_api_Typed_api_Typed]
 refine IxTyp_any l hl hr hG hq' fun G' hE => ?_
 simp
 rw [ixZ_any]
 exact k G' hE
theorem let_1_any {c st : Nat} {k1 : LV} {n : Str} {r : List LV} (hc : G0[c]? = some (.cells (k1 :: .str n :: r) st)) (v : TypT) : Prd Try.prog 64 [] [.ptr c 0] (.agg v.f) G0 (decide (v.name = n)) := by
 intro G1 hE K k
 refine call_body r_types_looker_let_1 k_types_looker_let_1 (by simp) ?_
 have hc1 := hE.at_ hc
 have hl := (List.getElem?_eq_some_iff.1 hc1).1
 simp [c_types_looker_let_1, TypT.f, ↓oldP hl, hc1]
 exact k _ (Ext.app _ _)
theorem let_any {c s ck sst : Nat} {p : PrcT} {ah : List PrcT} {all : List TypT} {es : Ens} (hL : Lkr G c p ah all) (hs : G[s]? = some (.map (scM es) ck sst)) (hpl : p.lens.length ≤ 9223372036854775807) (hal : all.length ≤ 1000000000) {kd : Int} {n : Str} {len : LenT} {op : Str} {xs : List ArgT} {w1 w2 w3 : LV} (hx : xs.length ≤ 9223372036854775807) (hts : len.ts.length ≤ 9223372036854775807)
  (k : ∀ G' e' es' all' ck' sst', letE p.lens n len op xs (scF es) all = (e', scF es', all') → Lkr G' c p ah all' → G'[s]? = some (.map (scM es') ck' sst') → Frm c s G G' → K (.i e') G') :
  CallL Try.prog (.fn 50) [.ptr c 0, .map s, .agg [.i kd, .str n, .i len.c, .lst (tmC len.ts) len.ts.length 2, .str op, .lst (argC xs) xs.length 2, w1, w2, w3]] G K := by
 refine call_body r_types_looker_let k_types_looker_let (by simp) ?_
 simp [c_types_looker_let]
 obtain ⟨G1, hG1⟩ : ∃ G1, G1 = G ++ [LObj.cells [.i kd, .str n, .i len.c, .lst (tmC len.ts) len.ts.length 2, .str op, .lst (argC xs) xs.length 2, w1, w2, w3] 0] := ⟨_, rfl⟩
 have e1 : Ext G G1 := by rw [hG1]; exact Ext.app _ _
 have x1 : G1[G.length]? = some (.cells [.i kd, .str n, .i len.c, .lst (tmC len.ts) len.ts.length 2, .str op, .lst (argC xs) xs.length 2, w1, w2, w3] 0) := by rw [hG1]; simp
 rw [← hG1]
 refine expr_any (es := es) (e1.at_ hs) hx fun G2 hE2 => ?_
 have e2 := e1.trans hE2
 have x2 := hE2.at_ x1
 obtain ⟨st2, v2, c2, r2⟩ := hL.ext e2
 simp [c2, x2]
 refine CallL_F (ContainsS_ok p.lens n hpl) (bors_self _ (by simp [dats, LV.dat, strC_dats])) ?_
 cases hq : hasS p.lens n with
 | true =>
  simp
  have := k G2 6 es all ck sst (by simp [letE, hq]) ⟨st2, v2, c2, r2⟩ (e2.at_ hs) e2.frm
  exact this
 | false =>
 simp [c2]
 refine HasTyp_any (q' := fun v => decide (v.name = n)) (G0 := G2) all (by omega) r2 (Ext.refl _) (fun a _ => let_1_any (c := G.length) x2 a) fun G3 hE3 => ?_
 have e3 := e2.trans hE3
 have x3 := hE3.at_ x2
 have c3 := hE3.at_ c2
 have r3 := r2.ext hE3
 cases hq2 : all.any (fun v => decide (v.name = n)) with
 | true =>
  simp
  have := k G3 6 es all ck sst (by simp [letE, hasT, hq, hq2]) ⟨st2, v2, c3, r3⟩ (e3.at_ hs) e3.frm
  exact this
 | false =>
 simp [c3, x3]
 refine foreign_any (l := len) hts hpl fun G4 hE4 => ?_
 have e4 := e3.trans hE4
 have x4 := hE4.at_ x3
 have c4 := hE4.at_ c3
 have r4 := r3.ext hE4
 cases hf : foreignE len.ts p.lens with
 | true =>
  simp
  have := k G4 5 es all ck sst (by simp [letE, hasT, hq, hq2, hf]) ⟨st2, v2, c4, r4⟩ (e4.at_ hs) e4.frm
  exact this
 | false =>
 by_cases he : exprE (scF es) op xs = 0
 case neg =>
  simp [he]
  have := k G4 (exprE (scF es) op xs) es all ck sst (by simp [letE, hasT, hq, hq2, hf, he]) ⟨st2, v2, c4, r4⟩ (e4.at_ hs) e4.frm
  exact this
 have s4 := e4.at_ hs
 have l4 := (List.getElem?_eq_some_iff.1 x4).1
 have lc4 := (List.getElem?_eq_some_iff.1 c4).1
 have ls4 := (List.getElem?_eq_some_iff.1 s4).1
 simp [he, x4, ↓oldP l4]
 refine secret_any (es := es) ((Ext.app G4 _).at_ s4) hx fun G5 hE5 => ?_
 have e45 := (Ext.app G4 [LObj.cells [.str [], .bool false, .i 0] 0]).trans hE5
 have x5 := e45.at_ x4
 have v5 : G5[G4.length]? = some (.cells [.str [], .bool false, .i 0] 0) := hE5.at_ (by simp)
 have c5 := e45.at_ c4
 have s5 := e45.at_ s4
 have r5 := r4.ext e45
 have lv5 := (List.getElem?_eq_some_iff.1 v5).1
 have ne1 : c ≠ G4.length := by omega
 have ne2 : s ≠ G4.length := by omega
 have ne3 : G.length ≠ G4.length := by omega
 have ncs : c ≠ s := fun e => by subst e; rw [s4] at c4; cases c4
 have ncx : c ≠ G.length := fun e => by subst e; rw [x4] at c4; cases c4
 obtain ⟨t, ht⟩ : ∃ t : TypT, t = ⟨n, secE (scF es) xs, 0⟩ := ⟨_, rfl⟩
 simp [x5, v5, ↓oldP l4, x4]
 obtain ⟨G6, hG6⟩ : ∃ G6, G6 = G5.set G4.length (LObj.cells [.str n, .bool (secE (scF es) xs), .i 0] 1) := ⟨_, rfl⟩
 have c6 := (show G6[c]? = G5[c]? by rw [hG6, List.getElem?_set_ne (fun e => ne1 e.symm)]).trans c5
 have s6 := (show G6[s]? = G5[s]? by rw [hG6, List.getElem?_set_ne (fun e => ne2 e.symm)]).trans s5
 have x6 := (show G6[G.length]? = G5[G.length]? by rw [hG6, List.getElem?_set_ne (fun e => ne3 e.symm)]).trans x5
 have v6 : G6[G4.length]? = some (.cells [.str n, .bool (secE (scF es) xs), .i 0] 1) := by rw [hG6, List.getElem?_set_self lv5]
 have r6 : RowT G6 v2 all := by
  rcases r5 with h | ⟨q, kk, st, hv, hq⟩
  ·exact .inl h
  ·refine .inr ⟨q, kk, st, hv, ?_⟩
   rw [hG6, List.getElem?_set_ne (fun e => by subst e; rw [v5] at hq; cases hq)]; exact hq
 have f6 : Frm c s G G6 := ⟨by rw [hG6, List.length_set]; have := e4.1; have := e45.1; omega, fun z o hz _ _ _ => by
  rw [hG6, List.getElem?_set_ne (fun e => by have := (List.getElem?_eq_some_iff.1 hz).1; have := e4.1; omega)]; exact e45.at_ (e4.at_ hz)⟩
 rw [← hG6]
 have lc6 := (List.getElem?_eq_some_iff.1 c6).1
 have lv6 := (List.getElem?_eq_some_iff.1 v6).1
 simp [c6, v6, ↓oldP lc6, ↓oldP lv6]
 refine RowT.push (all := all) (r6.ext (Ext.app _ _)) ⟨n, secE (scF es) xs, 0⟩ hal fun v' G7 r7 f7 l7 => ?_
 have n6 : ∀ cs st, no3 (LObj.cells cs st) := fun cs st R m k st' e => by cases e
 have nm : ∀ a b st, no3 (LObj.map a b st) := fun a b st R m k st' e => by cases e
 have c7 := f7 _ _ ((Ext.app G6 _).at_ c6) (n6 _ _)
 have s7 := f7 _ _ ((Ext.app G6 _).at_ s6) (nm _ _ _)
 have x7 := f7 _ _ ((Ext.app G6 _).at_ x6) (n6 _ _)
 have v7 := f7 _ _ ((Ext.app G6 _).at_ v6) (n6 _ _)
 rcases r7 with ⟨_, r7⟩ | ⟨q7, k7, st7, rfl, hq7⟩
 ·simp at r7
 have lc7 := (List.getElem?_eq_some_iff.1 c7).1
 have ls7 := (List.getElem?_eq_some_iff.1 s7).1
 have ncq : c ≠ q7 := fun e => by subst e; rw [c7] at hq7; cases hq7
 have nsq : s ≠ q7 := fun e => by subst e; rw [s7] at hq7; cases hq7
 have p8 : ∀ y, (G7.set c y)[s]? = some (.map (scM es) ck sst) := fun y => by rw [List.getElem?_set_ne ncs]; exact s7
 have p9 : ∀ y, (G7.set c y)[G.length]? = some (.cells [.i kd, .str n, .i len.c, .lst (tmC len.ts) len.ts.length 2, .str op, .lst (argC xs) xs.length 2, w1, w2, w3] 0) := fun y => by rw [List.getElem?_set_ne ncx]; exact x7
 have p10 : ∀ y, (G7.set c y)[G4.length]? = some (.cells [.str n, .bool (secE (scF es) xs), .i 0] 1) := fun y => by rw [List.getElem?_set_ne ne1]; exact v7
 have put1 : ∀ KB, putL .string (.str n) (.agg [.str n, .bool (secE (scF es) xs), .i 0]) ck KB (scM es) = KB (scM (scPut n ⟨n, secE (scF es) xs, 0⟩ ck es)) (scF es n).isNone := fun KB => put_sc (v := ⟨n, secE (scF es) xs, 0⟩) es
 simp [c7, p8, p9, p10, put1]
 refine k _ 0 (scPut n ⟨n, secE (scF es) xs, 0⟩ ck es) (all ++ [⟨n, secE (scF es) xs, 0⟩]) _ _ ?_ ⟨st2 + 1, .dy q7 k7, ?_, .inr ⟨q7, k7, st7, rfl, ?_⟩⟩ (List.getElem?_set_self (by simpa using ls7)) ⟨?_, fun z o hz h1 h2 h3 => ?_⟩
 ·rw [scF_put (n := n) (v := ⟨n, secE (scF es) xs, 0⟩) rfl]
  simp [letE, hasT, hq, hq2, hf, he]
 ·rw [List.getElem?_set_ne (fun e => ncs e.symm), List.getElem?_set_self lc7]
 ·rw [List.getElem?_set_ne nsq, List.getElem?_set_ne ncq]; exact hq7
 ·rw [List.length_set, List.length_set]
  have := f6.1
  simp at l7
  omega
 ·rw [List.getElem?_set_ne (fun e => h2 e.symm), List.getElem?_set_ne (fun e => h1 e.symm)]
  exact f7 _ _ ((Ext.app G6 _).at_ (f6.2 z o hz h1 h2 h3)) h3
theorem set_any {s ck sst : Nat} {es : Ens} (hs : G[s]? = some (.map (scM es) ck sst)) {kd : Int} {n : Str} {len : LenT} {op : Str} {xs : List ArgT} {w1 w2 w3 : LV} (hx : xs.length ≤ 9223372036854775807)
  (k : ∀ G', Ext G G' → K (.i (setE n op xs (scF es))) G') :
  CallL Try.prog (.fn 51) [.map s, .agg [.i kd, .str n, .i len.c, .lst (tmC len.ts) len.ts.length 2, .str op, .lst (argC xs) xs.length 2, w1, w2, w3]] G K := by
 refine call_body r_types_scope_set k_types_scope_set (by simp) ?_
 obtain ⟨X, hX⟩ : ∃ X, X = LObj.cells [.i kd, .str n, .i len.c, .lst (tmC len.ts) len.ts.length 2, .str op, .lst (argC xs) xs.length 2, w1, w2, w3] 0 := ⟨_, rfl⟩
 have hsl := (List.getElem?_eq_some_iff.1 hs).1
 cases h : scF es n with
 | none =>
  simp [c_types_scope_set, ↓oldP hsl, hs, find_sc, h]
  refine expr_any (es := es) ((Ext.app G _).at_ hs) hx fun G2 hE2 => ?_
  simp
  have := k G2 ((Ext.app G _).trans hE2)
  simpa [setE, h] using this
 | some v =>
  simp [c_types_scope_set, ↓oldP hsl, hs, find_sc, h, TypT.f]
  obtain ⟨G1, hG1⟩ : ∃ G1, G1 = G ++ [LObj.cells [.i kd, .str n, .i len.c, .lst (tmC len.ts) len.ts.length 2, .str op, .lst (argC xs) xs.length 2, w1, w2, w3] 0, .cells [.str v.name, .bool v.sec, .i v.mode] 1] := ⟨_, rfl⟩
  have e1 : Ext G G1 := by rw [hG1]; exact Ext.app _ _
  have x1 : G1[G.length]? = some (.cells [.i kd, .str n, .i len.c, .lst (tmC len.ts) len.ts.length 2, .str op, .lst (argC xs) xs.length 2, w1, w2, w3] 0) := by rw [hG1]; simp
  have v1 : G1[G.length + 1]? = some (.cells [.str v.name, .bool v.sec, .i v.mode] 1) := by rw [hG1]; simp
  rw [← hG1]
  refine expr_any (es := es) (e1.at_ hs) hx fun G2 hE2 => ?_
  have e2 := e1.trans hE2
  have x2 := hE2.at_ x1
  have v2 := hE2.at_ v1
  have hvf : v.f = [.str v.name, .bool v.sec, .i v.mode] := rfl
  simp [v2]
  rw [← hvf]
  refine CallL_F (types_given_ok v) (bors_self _ (by simp [dats, LV.dat, hvf])) ?_
  cases hg : givenT v with
  | true =>
   simp
   have := k G2 e2
   simpa [setE, h, hg] using this
  | false =>
   by_cases he : exprE (scF es) op xs = 0
   case neg =>
    simp [he]
    have := k G2 e2
    simpa [setE, h, hg, he] using this
   cases hsec : v.sec with
   | true =>
    rw [hsec] at v2
    simp [he, v2]
    have := k G2 e2
    simpa [setE, h, hg, he, hsec] using this
   | false =>
    rw [hsec] at v2
    simp [he, v2, x2]
    refine secret_any (es := es) (e2.at_ hs) hx fun G3 hE3 => ?_
    cases hq : secE (scF es) xs with
    | true =>
     simp
     have := k G3 (e2.trans hE3)
     simpa [setE, h, hg, he, hsec, hq] using this
    | false =>
     simp
     have := k G3 (e2.trans hE3)
     simpa [setE, h, hg, he, hsec, hq] using this
theorem lookK_at {s : Sc} {n : Str} {K1 : LV → Prop} : lookK (.agg [.str [], .bool false, .i 0]) false K1 ((s n).map fun v => .agg v.f) = K1 (.agg [.str (s.at_ n).name, .bool (s.at_ n).sec, .i (s.at_ n).mode]) := by
 cases h : s n with
 | none => simp [Sc.at_, h, typ0]
 | some v => simp [Sc.at_, h, TypT.f]
theorem at_gn {ns : List Str} {i : Nat} (h : i < ns.length) : (strC ns)[i]? = some (.str (gn ns i)) := by
 simp [strC, gn, List.getD_eq_getElem?_getD, h]
theorem swap_any {s ck sst : Nat} {es : Ens} (hs : G[s]? = some (.map (scM es) ck sst)) {w0 w1 w2 w3 w4 w5 w7 w8 : LV} {ns : List Str} (hn : ns.length ≤ 9223372036854775807)
  (k : ∀ G', Ext G G' → K (.i (swapE ns (scF es))) G') :
  CallL Try.prog (.fn 52) [.map s, .agg [w0, w1, w2, w3, w4, w5, .lst (strC ns) ns.length 1, w7, w8]] G K := by
 refine call_body r_types_scope_swap k_types_scope_swap (by simp) ?_
 by_cases h3 : ns.length = 3
 case neg =>
  have h3' : ¬ (ns.length : Int) = 3 := by omega
  simp [c_types_scope_swap, h3, h3']
  have := k _ (Ext.app G [.cells [w0, w1, w2, w3, w4, w5, .lst (strC ns) ns.length 1, w7, w8] 0])
  simpa [swapE, h3] using this
 simp [c_types_scope_swap, h3]
 obtain ⟨G1, hG1⟩ : ∃ G1, G1 = G ++ [LObj.cells [w0, w1, w2, w3, w4, w5, .lst (strC ns) 3 1, w7, w8] 0] := ⟨_, rfl⟩
 have e1 : Ext G G1 := by rw [hG1]; exact Ext.app _ _
 have x1 : G1[G.length]? = some (.cells [w0, w1, w2, w3, w4, w5, .lst (strC ns) 3 1, w7, w8] 0) := by rw [hG1]; simp
 rw [← hG1]
 have key := fun K2 => HasStr_any (K := K2) (fs := [.map s]) (cap := []) (g := 35) (q' := fun n => (scF es).lacks n) (G0 := G1) (G := G1) ns hn (Ext.refl _) (fun a _ => lacks_prd (e1.at_ hs) a)
 rw [h3] at key
 refine key _ fun G2 hE2 => ?_
 have e2 := e1.trans hE2
 have x2 := hE2.at_ x1
 have s2 := e2.at_ hs
 cases hq : ns.any (fun n => (scF es).lacks n) with
 | true =>
  simp
  have := k G2 e2
  have hq' : ns.any (scF es).lacks = true := hq
  simpa [swapE, h3, hq'] using this
 | false =>
 have hq' : ns.any (scF es).lacks = false := hq
 have q0 := at_gn (ns := ns) (i := 0) (by omega)
 have q1 := at_gn (ns := ns) (i := 1) (by omega)
 have q2 := at_gn (ns := ns) (i := 2) (by omega)
 have hln : (strC ns).length = 3 := by simp [strC, h3]
 have hf : ∀ v : TypT, v.f = [.str v.name, .bool v.sec, .i v.mode] := fun v => rfl
 have lx := (List.getElem?_eq_some_iff.1 x2).1
 have lsl := (List.getElem?_eq_some_iff.1 s2).1
 simp [x2, s2, nthL_at q0, nthL_at q1, nthL_at q2, hln, find_sc, lookK_at, ↓oldP lx, ↓oldP lsl]
 have key2 : ∀ e, swapE ns (scF es) = e → ∀ G', Ext G G' → K (.i e) G' := fun e he G' h => by rw [← he]; exact k G' h
 have hsw : swapE ns (scF es) = if gn ns 1 = gn ns 2 ∨ givenT ((scF es).at_ (gn ns 1)) = true ∨ givenT ((scF es).at_ (gn ns 2)) = true then 2
   else if (((((scF es).at_ (gn ns 0)).sec || (((scF es).at_ (gn ns 1)).sec || ((scF es).at_ (gn ns 2)).sec)) && !(((scF es).at_ (gn ns 1)).sec && ((scF es).at_ (gn ns 2)).sec)) = true) then 12 else 0 := by
  simp [swapE, h3, hq']
 clear k
 generalize (scF es).at_ (gn ns 0) = a at *
 generalize (scF es).at_ (gn ns 1) = b at *
 generalize (scF es).at_ (gn ns 2) = d at *
 have gv : ∀ v : TypT, FnS Try.prog 66 [.agg [.str v.name, .bool v.sec, .i v.mode]] (.bool (givenT v)) [] := fun v => types_given_ok v
 have bs : ∀ (v : TypT) {G : LHeap}, bors G [.agg [.str v.name, .bool v.sec, .i v.mode]] [.agg [.str v.name, .bool v.sec, .i v.mode]] := fun v => bors_self _ (by simp [dats, LV.dat])
 obtain ⟨G3, hG3⟩ : ∃ G3, G3 = G2 ++ [LObj.cells [.str a.name, .bool a.sec, .i a.mode] 1, .cells [.str b.name, .bool b.sec, .i b.mode] 1, .cells [.str d.name, .bool d.sec, .i d.mode] 1] := ⟨_, rfl⟩
 have e3 : Ext G G3 := e2.trans (by rw [hG3]; exact Ext.app _ _)
 have a3 : G3[G2.length]? = some (.cells [.str a.name, .bool a.sec, .i a.mode] 1) := by rw [hG3]; simp
 have b3 : G3[G2.length + 1]? = some (.cells [.str b.name, .bool b.sec, .i b.mode] 1) := by rw [hG3]; simp
 have d3 : G3[G2.length + 2]? = some (.cells [.str d.name, .bool d.sec, .i d.mode] 1) := by rw [hG3]; simp
 rw [← hG3]
 refine ⟨fun e12 => key2 2 (by rw [hsw, if_pos (.inl e12)]) _ e3, fun e12 => ?_⟩
 refine CallL_F (gv b) (bs b) ?_
 cases gb : givenT b with
 | true =>
  simp
  exact key2 2 (by rw [hsw]; simp [gb]) _ e3
 | false =>
 simp [d3]
 refine CallL_F (gv d) (bs d) ?_
 cases gd2 : givenT d with
 | true =>
  simp
  exact key2 2 (by rw [hsw]; simp [gd2]) _ e3
 | false =>
 cases ha : a.sec <;> cases hb : b.sec <;> cases hd : d.sec <;> rw [ha] at a3 <;> rw [hb] at b3 <;> rw [hd] at d3 <;> simp [a3, b3, d3] <;>
  first
  | exact key2 0 (by rw [hsw]; simp [e12, gb, gd2, ha, hb, hd]) _ e3
  | exact key2 12 (by rw [hsw]; simp [e12, gb, gd2, ha, hb, hd]) _ e3
end heap
end Go.Proofs.Ytcbbilifblbblaa
