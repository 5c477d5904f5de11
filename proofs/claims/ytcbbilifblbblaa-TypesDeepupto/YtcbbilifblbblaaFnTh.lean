/- Clauses, parameters, walked. -/
import Derived.Test.YtcbbilifblbblaaFnTg
namespace Go.Proofs.Ytcbbilifblbblaa
open Go.Sv
set_option linter.unusedSimpArgs false
set_option linter.unusedVariables false
set_option maxRecDepth 10000
def c_types_looker_params : LC := (.seq (.ops [.z 2 (.move (.c (.i 0)))]) (.seq (.seq (.ops [.m 5 0,.z 6 (.nilChk (.t 5)),.f 7 0 6,.f 8 2 7,.l 9 8,.z 10 (.lenSl (.t 9)),.z 11 (.move (.c (.i 0)))]) (.block 0 (.loop (.seq (.ops [.z 12 (.bin .lss false 3 (.t 11) (.t 10))]) (.seq (.cond (.t 12) .skip (.exit 0)) (.seq (.block 1 (.seq (.ops [.z 13 (.ixAddr 4 (.t 9) (.t 11)),.z 14 (.loadN 4 (.t 13)),.z 4 (.alloc [(.i 0),(.str []),(.i 0),.nilSl]),⟨none,none,.store 4 (.t 4) (.t 14)⟩]) (.seq (.block 2 (.seq (.draw [(.m 16 0,[]),(.z 17 (.nilChk (.t 16)),[]),(.f 18 0 17,[]),(.f 19 1 18,[]),(.l 20 19,[]),(.f 21 1 4,[]),(.l 22 21,[]),(.z 23 (.callV (.c (.fn (.func 30) [] [])) [.t 20,.t 22]),[]),(.m 24 23,[]),(⟨some 25,(some (24,false)),.move (.t 0)⟩,[]),(⟨some 26,(some (24,false)),.nilChk (.t 25)⟩,[]),(⟨some 27,(some (24,false)),.fieldAddr 7 (.t 26)⟩,[]),(⟨some 28,(some (24,false)),.load1 (.t 27)⟩,[]),(⟨some 29,(some (24,false)),.mkFunc 32 [] [.t 4]⟩,[]),(⟨some 30,(some (24,false)),.callV (.c (.fn (.func 31) [] [])) [.t 28,.t 29]⟩,[]),(.z 31 (.pick (.t 24) (.c (.bool true)) (.t 30)),[]),(.m 15 31,[])]) (.cond (.t 15) (.seq (.ops [.z 2 (.move (.c (.i 6)))]) .ret) (.seq (.draw [(.f 33 2 4,[]),(.z 34 (.loadN 2 (.t 33)),[]),(.m 35 0,[]),(.z 36 (.nilChk (.t 35)),[]),(.f 37 0 36,[]),(.f 38 1 37,[]),(.l 39 38,[]),(.z 40 (.callV (.c (.fn (.func 33) [] [])) [.t 34,.t 39]),[]),(.m 32 40,[])]) (.cond (.t 32) (.seq (.ops [.z 2 (.move (.c (.i 5)))]) .ret) (.seq (.ops [.f 42 0 4,.l 43 42,.z 44 (.bin .lss true 3 (.t 43) (.c (.i 1))),.m 45 44,⟨some 46,(some (45,false)),.fieldAddr 0 (.t 4)⟩,⟨some 47,(some (45,false)),.load1 (.t 46)⟩,⟨some 48,(some (45,false)),.bin .gtr true 3 (.t 47) (.c (.i 3))⟩,.z 49 (.pick (.t 45) (.c (.bool true)) (.t 48)),.m 41 49]) (.cond (.t 41) (.seq (.ops [.z 2 (.move (.c (.i 2)))]) .ret) .skip))))))) (.draw [(.m 50 0,[]),(.m 51 0,[]),(.z 52 (.nilChk (.t 51)),[]),(.f 53 7 52,[]),(.l 54 53,[]),(.f 55 1 4,[]),(.l 56 55,[]),(.f 57 0 4,[]),(.l 58 57,[]),(.z 59 (.bin .neq true 3 (.t 58) (.c (.i 1))),[]),(.f 60 0 4,[]),(.l 61 60,[]),(.z 62 (.build [(.str []),(.bool false),(.i 0)] [(0,1,.t 56),(1,1,.t 59),(2,1,.t 61)]),[]),(.z 63 (.buildSl 3 1 [(.str []),(.bool false),(.i 0)] [(0,3,.t 62)]),[(.l 61 60,false),(.l 58 57,false),(.l 56 55,false),(.l 54 53,false)]),(.z 64 (.appG 3 (.t 54) (.t 63)),[]),(.z 65 (.nilChk (.t 50)),[]),(.f 66 7 65,[]),(⟨none,none,.store 1 (.t 66) (.t 64)⟩,[])])))) (.ops [.z 67 (.bin .add true 3 (.t 11) (.c (.i 1))),.m 11 67]))))))) (.seq (.ops [.z 2 (.move (.c (.i 0)))]) .ret)))
theorem r_types_looker_params : resFn Try.prog 22 = some ⟨68, c_types_looker_params.r, [.tmp 2]⟩ := by kernel_rfl
theorem k_types_looker_params : c_types_looker_params.ok = true := by kernel_rfl
def c_types_looker_params_1 : LC := (.seq (.ops [.z 2 (.box (.t 0)),.z 3 (.move (.c (.bool false)))]) (.seq (.ops [.f 4 0 2,.l 5 4,.f 6 1 1,.l 7 6,.z 8 (.bin .eql false 9 (.t 5) (.t 7)),.m 3 8]) .ret))
theorem r_types_looker_params_1 : resFn Try.prog 32 = some ⟨9, c_types_looker_params_1.r, [.tmp 3]⟩ := by kernel_rfl
theorem k_types_looker_params_1 : c_types_looker_params_1.ok = true := by kernel_rfl
section heap
variable {G0 G : LHeap} {K : LV → LHeap → Prop} {g : Nat} {fs cap : List LV}
theorem IxStrD_any {q' : Str → Bool} {z kk st : Nat} (l : List Str) (hl : l.length ≤ 9223372036854775807) (hr : G0[z]? = some (.dyn (strC l) l.length 1 kk st)) (hG : Ext G0 G) (hq' : ∀ a ∈ l, Prd Try.prog g fs cap (.str a) G0 (q' a)) (k : ∀ G', Ext G G' → K (.i (ixZ q' l)) G') :
  CallL Try.prog (.fn 48) [.dy z kk, .fn (.func g) fs cap] G K := by
 refine call_body r_slices_IndexFunc_string_string k_slices_IndexFunc_string_string (by simp) ?_
 have hz1 := hG.at_ hr
 simp [c_slices_IndexFunc_string_string, hz1]
 refine loop_nx (fun ρ D G' N => ∃ i : Nat, D = [] ∧ N + i = l.length ∧ lk ρ 0 = .dy z kk ∧ lk ρ 1 = .fn (.func g) fs cap ∧ lk ρ 7 = .i l.length ∧ lk ρ 8 = .i i ∧ Ext G G' ∧ ∀ j b, j < i → l[j]? = some b → q' b = false) (N := l.length)
  ⟨0, rfl, by omega, by simp, by simp, by simp, by simp, Ext.refl G, fun j b hj => by omega⟩ ?_
 rintro N ρ D G' ⟨i, rfl, hN, h0, h1, h7, h8, hE, hn⟩ Nx hNx
 have hz2 := hE.at_ hz1
 by_cases gi : i < l.length
 ·obtain ⟨a, ha⟩ : ∃ a, l[i]? = some a := ⟨_, List.getElem?_eq_getElem gi⟩
  have qs : (strC l)[i]? = some (.str a) := map_at (f := LV.str) ha
  have hq : i < (strC l).length := by simp [strC]; omega
  simp [h0, h1, h7, h8, gi, hz2, nthL_at qs, hq]
  refine hq' a (List.mem_iff_getElem?.2 ⟨i, ha⟩) G' (hG.trans hE) _ fun G2 hE2 => ?_
  cases hb : q' a with
  | true =>
   simp
   rw [← ixZ_at ha hb hn]
   exact k G2 (hE.trans hE2)
  | false =>
   simp [h8]
   refine ⟨by omega, hNx _ _ _ ⟨N - 1, by omega, i + 1, rfl, by omega, by simp [h0], by simp [h1], by simp [h7], by simp, hE.trans hE2, fun j b hj hjb => ?_⟩⟩
   by_cases e : j = i
   ·subst e; rw [ha] at hjb; cases hjb; exact hb
   ·exact hn j b (by omega) hjb
 ·simp [h0, h1, h7, h8, gi]
  rw [← ixZ_none (Nat.le_of_not_lt gi) hn]
  exact k G' hE
theorem HasStrD_any {q' : Str → Bool} {z kk st : Nat} (l : List Str) (hl : l.length ≤ 9223372036854775807) (hr : G0[z]? = some (.dyn (strC l) l.length 1 kk st)) (hG : Ext G0 G) (hq' : ∀ a ∈ l, Prd Try.prog g fs cap (.str a) G0 (q' a)) (k : ∀ G', Ext G G' → K (.bool (l.any q')) G') :
  CallL Try.prog (.fn 34) [.dy z kk, .fn (.func g) fs cap] G K := by
 refine call_body r_slices_ContainsFunc_string_string k_slices_ContainsFunc_string_string (by simp) ?_
 simp [c_slices_ContainsFunc_string_string]
 refine IxStrD_any l hl hr hG hq' fun G' hE => ?_
 simp
 rw [ixZ_any]
 exact k G' hE
theorem clauses_any {c : Nat} {p : PrcT} {ah : List PrcT} {all : List TypT} (hL : Lkr G c p ah all) (hal : all.length ≤ 1000000000) (rq : Bool) (l : List ClaT) (hl : l.length ≤ 9223372036854775807) (k : ∀ G', Ext G G' → K (.i (clasE all rq l)) G') :
  CallL Try.prog (.fn 23) [.ptr c 0, .lst (claC l) l.length 3, .bool rq] G K := by
 refine call_body r_types_looker_clauses k_types_looker_clauses (by simp) ?_
 obtain ⟨st0, v0, c0, r0⟩ := hL
 have lc0 := (List.getElem?_eq_some_iff.1 c0).1
 simp [c_types_looker_clauses, c0]
 refine visible_any r0 hal fun G1 m es ck mst hes hmG hm hE1 => ?_
 simp
 obtain ⟨G2, hG2⟩ : ∃ G2, G2 = G1 ++ [LObj.cells [.map m] 1] := ⟨_, rfl⟩
 have e12 : Ext G1 G2 := by rw [hG2]; exact Ext.app _ _
 have e2 := hE1.trans e12
 have s2 : G2[G1.length]? = some (.cells [.map m] 1) := by rw [hG2]; simp
 have m2 := e12.at_ hm
 rw [← hG2]
 refine loop_nx (fun ρ D G' N => ∃ (i : Nat), D = [] ∧ N + i = l.length ∧ lk ρ 2 = .bool rq ∧ lk ρ 7 = .ptr G1.length 0 ∧ lk ρ 16 = .lst (claC l) l.length 3 ∧ lk ρ 17 = .i l.length ∧ lk ρ 18 = .i i ∧ Ext G2 G' ∧ clasE all rq (l.drop i) = clasE all rq l) (N := l.length)
  ⟨0, rfl, by omega, by simp, by simp, by simp, by simp, by simp, Ext.refl _, by simp⟩ ?_
 rintro N ρ D G' ⟨i, rfl, hN, h2, h7, h16, h17, h18, hE, hgo⟩ Nx hNx
 have e3 := e2.trans hE
 have s3 := hE.at_ s2
 have m3 := hE.at_ m2
 by_cases gi : i < l.length
 case neg =>
  rw [List.drop_of_length_le (by omega)] at hgo
  simp [h17, h18, gi]
  have := k G' e3
  rw [← hgo] at this
  exact this
 obtain ⟨x, hx⟩ : ∃ x, l[i]? = some x := ⟨_, List.getElem?_eq_getElem gi⟩
 rw [claE_cut hx] at hgo
 have q3 : ((claC l).drop (i * 3)).take 3 = x.f := fm_take ClaT.f_len hx
 have hq3 : i * 3 + 3 ≤ (claC l).length := fm_lt ClaT.f_len gi
 have hxf : x.f = [.i x.kind, .str x.a, .str x.b] := rfl
 have ls3 := (List.getElem?_eq_some_iff.1 s3).1
 have nxt : ∀ ρ' G5, Ext G' G5 → clasE all rq (l.drop (i + 1)) = clasE all rq l → lk ρ' 2 = .bool rq → lk ρ' 7 = .ptr G1.length 0 → lk ρ' 16 = .lst (claC l) l.length 3 → lk ρ' 17 = .i l.length → lk ρ' 18 = .i ((i : Int) + 1) → Nx ρ' [] G5 := fun ρ' G5 e5 hg a2 a7 a16 a17 a18 =>
  hNx _ _ _ ⟨N - 1, by omega, i + 1, rfl, by omega, a2, a7, a16, a17, by rw [a18]; simp, hE.trans e5, hg⟩
 have hcl0 : (x.kind = 1 ∨ x.kind = 2 ∨ x.kind = 3) → claE all rq x = if (claN x).any (fun n => (scF es).lacks n) = true then 5 else if (rq && (claN x).any fun n => decide (((scF es).at_ n).mode = 3)) = true then 2 else 0 := fun h => by
  unfold claE
  rw [if_neg (fun h2 => h2 h), hes]
 by_cases k2 : x.kind = 2
 ·have hn : claN x = [x.a, x.b] := by simp [claN, k2]
  have hcl := hcl0 (.inr (.inl k2))
  simp [h2, h7, h16, h17, h18, gi, q3, hq3, hxf, k2, ↓oldP ls3, s3]
  obtain ⟨G4, hG4⟩ : ∃ G4, G4 = G' ++ [LObj.cells [.i 2, .str x.a, .str x.b] 1, .dyn [.str x.a, .str x.b] 2 1 1 1, .dyn [.str x.b] 1 1 0 0] := ⟨_, rfl⟩
  have e4 : Ext G' G4 := by rw [hG4]; exact Ext.app _ _
  have r4 : G4[G'.length + 1]? = some (.dyn (strC [x.a, x.b]) (List.length [x.a, x.b]) 1 1 1) := by rw [hG4]; simp [strC]
  rw [← hG4]
  refine HasStrD_any (q' := fun n => (scF es).lacks n) [x.a, x.b] (by simp) (G0 := G4) r4 (Ext.refl _) (fun a _ => lacks_prd (e4.at_ m3) a) fun G5 hE5 => ?_
  have e5 := e4.trans hE5
  cases hq : List.any [x.a, x.b] (fun n => (scF es).lacks n) with
  | true =>
   have hz : claE all rq x = 5 := by rw [hcl, hn, hq]; rfl
   rw [hz, if_pos (by decide)] at hgo
   simp
   have := k G5 (e3.trans e5)
   rw [← hgo] at this
   exact this
  | false =>
   cases rq with
   | false =>
    have hz : claE all false x = 0 := by rw [hcl, hn, hq]; rfl
    rw [hz, if_neg (fun h => h rfl)] at hgo
    simp [h2, h18]
    exact ⟨by omega, nxt _ _ e5 hgo (by simp [h2]) (by simp [h7]) (by simp [h16]) (by simp [h17]) (by simp)⟩
   | true =>
    simp [h2, h7]
    refine HasStrD_any (q' := fun n => decide (((scF es).at_ n).mode = 3)) [x.a, x.b] (by simp) (G0 := G5) (hE5.at_ r4) (Ext.refl _) (fun a _ => clauses_1_any (c := G1.length) (e5.at_ s3) (e5.at_ m3) a) fun G6 hE6 => ?_
    have e6 := e5.trans hE6
    cases hq2 : List.any [x.a, x.b] (fun n => decide (((scF es).at_ n).mode = 3)) with
    | true =>
     have hz : claE all true x = 2 := by rw [hcl, hn, hq, hq2]; rfl
     rw [hz, if_pos (by decide)] at hgo
     simp
     have := k G6 (e3.trans e6)
     rw [← hgo] at this
     exact this
    | false =>
     have hz : claE all true x = 0 := by rw [hcl, hn, hq, hq2]; rfl
     rw [hz, if_neg (fun h => h rfl)] at hgo
     simp [h18]
     exact ⟨by omega, nxt _ _ e6 hgo (by simp [h2]) (by simp [h7]) (by simp [h16]) (by simp [h17]) (by simp)⟩
 have hn : claN x = [x.a] := by simp [claN, k2]
 by_cases k1 : x.kind = 1
 ·have hcl := hcl0 (.inl k1)
  simp [h2, h7, h16, h17, h18, gi, q3, hq3, hxf, k1, ↓oldP ls3, s3]
  obtain ⟨G4, hG4⟩ : ∃ G4, G4 = G' ++ [LObj.cells [.i 1, .str x.a, .str x.b] 1, .dyn [.str x.a] 1 1 0 0] := ⟨_, rfl⟩
  have e4 : Ext G' G4 := by rw [hG4]; exact Ext.app _ _
  have r4 : G4[G'.length + 1]? = some (.dyn (strC [x.a]) (List.length [x.a]) 1 0 0) := by rw [hG4]; simp [strC]
  rw [← hG4]
  refine HasStrD_any (q' := fun n => (scF es).lacks n) [x.a] (by simp) (G0 := G4) r4 (Ext.refl _) (fun a _ => lacks_prd (e4.at_ m3) a) fun G5 hE5 => ?_
  have e5 := e4.trans hE5
  cases hq : List.any [x.a] (fun n => (scF es).lacks n) with
  | true =>
   have hz : claE all rq x = 5 := by rw [hcl, hn, hq]; rfl
   rw [hz, if_pos (by decide)] at hgo
   simp
   have := k G5 (e3.trans e5)
   rw [← hgo] at this
   exact this
  | false =>
   cases rq with
   | false =>
    have hz : claE all false x = 0 := by rw [hcl, hn, hq]; rfl
    rw [hz, if_neg (fun h => h rfl)] at hgo
    simp [h2, h18]
    exact ⟨by omega, nxt _ _ e5 hgo (by simp [h2]) (by simp [h7]) (by simp [h16]) (by simp [h17]) (by simp)⟩
   | true =>
    simp [h2, h7]
    refine HasStrD_any (q' := fun n => decide (((scF es).at_ n).mode = 3)) [x.a] (by simp) (G0 := G5) (hE5.at_ r4) (Ext.refl _) (fun a _ => clauses_1_any (c := G1.length) (e5.at_ s3) (e5.at_ m3) a) fun G6 hE6 => ?_
    have e6 := e5.trans hE6
    cases hq2 : List.any [x.a] (fun n => decide (((scF es).at_ n).mode = 3)) with
    | true =>
     have hz : claE all true x = 2 := by rw [hcl, hn, hq, hq2]; rfl
     rw [hz, if_pos (by decide)] at hgo
     simp
     have := k G6 (e3.trans e6)
     rw [← hgo] at this
     exact this
    | false =>
     have hz : claE all true x = 0 := by rw [hcl, hn, hq, hq2]; rfl
     rw [hz, if_neg (fun h => h rfl)] at hgo
     simp [h18]
     exact ⟨by omega, nxt _ _ e6 hgo (by simp [h2]) (by simp [h7]) (by simp [h16]) (by simp [h17]) (by simp)⟩
 by_cases k3 : x.kind = 3
 ·have hcl := hcl0 (.inr (.inr k3))
  simp [h2, h7, h16, h17, h18, gi, q3, hq3, hxf, k3, ↓oldP ls3, s3]
  obtain ⟨G4, hG4⟩ : ∃ G4, G4 = G' ++ [LObj.cells [.i 3, .str x.a, .str x.b] 1, .dyn [.str x.a] 1 1 0 0] := ⟨_, rfl⟩
  have e4 : Ext G' G4 := by rw [hG4]; exact Ext.app _ _
  have r4 : G4[G'.length + 1]? = some (.dyn (strC [x.a]) (List.length [x.a]) 1 0 0) := by rw [hG4]; simp [strC]
  rw [← hG4]
  refine HasStrD_any (q' := fun n => (scF es).lacks n) [x.a] (by simp) (G0 := G4) r4 (Ext.refl _) (fun a _ => lacks_prd (e4.at_ m3) a) fun G5 hE5 => ?_
  have e5 := e4.trans hE5
  cases hq : List.any [x.a] (fun n => (scF es).lacks n) with
  | true =>
   have hz : claE all rq x = 5 := by rw [hcl, hn, hq]; rfl
   rw [hz, if_pos (by decide)] at hgo
   simp
   have := k G5 (e3.trans e5)
   rw [← hgo] at this
   exact this
  | false =>
   cases rq with
   | false =>
    have hz : claE all false x = 0 := by rw [hcl, hn, hq]; rfl
    rw [hz, if_neg (fun h => h rfl)] at hgo
    simp [h2, h18]
    exact ⟨by omega, nxt _ _ e5 hgo (by simp [h2]) (by simp [h7]) (by simp [h16]) (by simp [h17]) (by simp)⟩
   | true =>
    simp [h2, h7]
    refine HasStrD_any (q' := fun n => decide (((scF es).at_ n).mode = 3)) [x.a] (by simp) (G0 := G5) (hE5.at_ r4) (Ext.refl _) (fun a _ => clauses_1_any (c := G1.length) (e5.at_ s3) (e5.at_ m3) a) fun G6 hE6 => ?_
    have e6 := e5.trans hE6
    cases hq2 : List.any [x.a] (fun n => decide (((scF es).at_ n).mode = 3)) with
    | true =>
     have hz : claE all true x = 2 := by rw [hcl, hn, hq, hq2]; rfl
     rw [hz, if_pos (by decide)] at hgo
     simp
     have := k G6 (e3.trans e6)
     rw [← hgo] at this
     exact this
    | false =>
     have hz : claE all true x = 0 := by rw [hcl, hn, hq, hq2]; rfl
     rw [hz, if_neg (fun h => h rfl)] at hgo
     simp [h18]
     exact ⟨by omega, nxt _ _ e6 hgo (by simp [h2]) (by simp [h7]) (by simp [h16]) (by simp [h17]) (by simp)⟩
 have hz : claE all rq x = 2 := by unfold claE; rw [if_pos (by rintro (h | h | h); exact k1 h; exact k2 h; exact k3 h)]
 rw [hz, if_pos (by decide)] at hgo
 simp [h2, h7, h16, h17, h18, gi, q3, hq3, hxf, k1, k2, k3]
 rw [← hgo] at k
 exact k _ (e3.trans (Ext.app G' _))
theorem params_1_any {c st : Nat} {k1 : LV} {n : Str} {r : List LV} (hc : G0[c]? = some (.cells (k1 :: .str n :: r) st)) (v : TypT) : Prd Try.prog 32 [] [.ptr c 0] (.agg v.f) G0 (decide (v.name = n)) := by
 intro G1 hE K k
 refine call_body r_types_looker_params_1 k_types_looker_params_1 (by simp) ?_
 have hc1 := hE.at_ hc
 have hl := (List.getElem?_eq_some_iff.1 hc1).1
 simp [c_types_looker_params_1, TypT.f, ↓oldP hl, hc1]
 exact k _ (Ext.app _ _)
theorem parsE_cut {lens : List Str} {ps : List ParT} {i : Nat} {x : ParT} (h : ps[i]? = some x) (all : List TypT) : parsE lens (ps.drop i) all = if parE lens all x ≠ 0 then (parE lens all x, all) else parsE lens (ps.drop (i + 1)) (all ++ [⟨x.name, !decide (x.mode = 1), x.mode⟩]) := by
 have hi := (List.getElem?_eq_some_iff.1 h).1
 rw [List.drop_eq_getElem_cons hi]
 have : ps[i] = x := by have := List.getElem?_eq_getElem hi; rw [h] at this; exact (Option.some.inj this).symm
 rw [this, parsE]
theorem params_any {c : Nat} {p : PrcT} {ah : List PrcT} (hL : Lkr G c p ah []) (hpl : p.lens.length ≤ 9223372036854775807) (hps : p.params.length ≤ 1000000000) (hpt : ∀ x ∈ p.params, x.len.ts.length ≤ 9223372036854775807)
  (k : ∀ G', Lkr G' c p ah (parsE p.lens p.params []).2 → Frm c c G G' → K (.i (parsE p.lens p.params []).1) G') :
  CallL Try.prog (.fn 22) [.ptr c 0] G K := by
 refine call_body r_types_looker_params k_types_looker_params (by simp) ?_
 have hL0 := hL
 obtain ⟨st0, v0, c0, r0⟩ := hL
 simp [c_types_looker_params, c0]
 refine loop_nx (fun ρ D G' N => ∃ (i : Nat) (all : List TypT), D = [] ∧ N + i = p.params.length ∧ lk ρ 0 = .ptr c 0 ∧ lk ρ 9 = .lst (parC p.params) p.params.length 4 ∧ lk ρ 10 = .i p.params.length ∧ lk ρ 11 = .i i ∧ Lkr G' c p ah all ∧ Frm c c G G' ∧ all.length = i ∧ parsE p.lens (p.params.drop i) all = parsE p.lens p.params []) (N := p.params.length)
  ⟨0, [], rfl, by omega, by simp, by simp, by simp, by simp, hL0, (Ext.refl G).frm, rfl, by simp⟩ ?_
 rintro N ρ D G' ⟨i, all, rfl, hN, h0, h9, h10, h11, hL, hF, hal, hgo⟩ Nx hNx
 by_cases gi : i < p.params.length
 case neg =>
  rw [List.drop_of_length_le (by omega), parsE] at hgo
  rw [← hgo] at k
  simp [h10, h11, gi]
  exact k G' hL hF
 obtain ⟨x, hx⟩ : ∃ x, p.params[i]? = some x := ⟨_, List.getElem?_eq_getElem gi⟩
 have hxm : x ∈ p.params := List.mem_iff_getElem?.2 ⟨i, hx⟩
 have hxt := hpt x hxm
 rw [parsE_cut hx] at hgo
 have q4 : ((parC p.params).drop (i * 4)).take 4 = x.f := fm_take ParT.f_len hx
 have hq4 : i * 4 + 4 ≤ (parC p.params).length := fm_lt ParT.f_len gi
 have hxf : x.f = [.i x.mode, .str x.name, .i x.len.c, .lst (tmC x.len.ts) x.len.ts.length 2] := rfl
 obtain ⟨st1, v1, c1, r1⟩ := hL
 have hL : Lkr G' c p ah all := ⟨st1, v1, c1, r1⟩
 have lc1 := (List.getElem?_eq_some_iff.1 c1).1
 simp [h0, h9, h10, h11, gi, q4, hq4, hxf, ↓oldP lc1, c1]
 obtain ⟨G1, hG1⟩ : ∃ G1, G1 = G' ++ [LObj.cells [.i x.mode, .str x.name, .i x.len.c, .lst (tmC x.len.ts) x.len.ts.length 2] 1] := ⟨_, rfl⟩
 have e1 : Ext G' G1 := by rw [hG1]; exact Ext.app _ _
 have x1 : G1[G'.length]? = some (.cells [.i x.mode, .str x.name, .i x.len.c, .lst (tmC x.len.ts) x.len.ts.length 2] 1) := by rw [hG1]; simp
 rw [← hG1]
 refine CallL_F (ContainsS_ok p.lens x.name hpl) (bors_self _ (by simp [dats, LV.dat, strC_dats])) ?_
 have bad : ∀ (e : Int) (G2 : LHeap), parE p.lens all x = e → e ≠ 0 → Ext G' G2 → K (.i e) G2 := fun e G2 he hne h => by
  rw [he, if_pos hne] at hgo
  rw [← hgo] at k
  exact k G2 (hL.ext h) (hF.trans h.frm)
 cases hq : hasS p.lens x.name with
 | true =>
  simp
  exact bad 6 G1 (by simp [parE, hq]) (by decide) e1
 | false =>
 simp [h0, e1.at_ c1]
 refine HasTyp_any (q' := fun v => decide (v.name = x.name)) (G0 := G1) all (by omega) (r1.ext e1) (Ext.refl _) (fun a _ => params_1_any (c := G'.length) x1 a) fun G3 hE3 => ?_
 have e3 := e1.trans hE3
 have x3 := hE3.at_ x1
 have c3 := e3.at_ c1
 cases hq2 : all.any (fun v => decide (v.name = x.name)) with
 | true =>
  simp
  exact bad 6 G3 (by simp [parE, hasT, hq, hq2]) (by decide) e3
 | false =>
 simp [h0, c3, x3]
 refine foreign_any (l := x.len) hxt hpl fun G4 hE4 => ?_
 have e4 := e3.trans hE4
 have x4 := hE4.at_ x3
 have c4 := hE4.at_ c3
 have r4 := r1.ext e4
 cases hf : foreignE x.len.ts p.lens with
 | true =>
  simp
  exact bad 5 G4 (by simp [parE, hasT, hq, hq2, hf]) (by decide) e4
 | false =>
 by_cases m1 : x.mode < 1
 ·simp [x4, m1]
  exact bad 2 G4 (by simp [parE, hasT, hq, hq2, hf, m1]) (by decide) e4
 by_cases m2 : 3 < x.mode
 ·simp [x4, m1, m2]
  exact bad 2 G4 (by simp [parE, hasT, hq, hq2, hf, m1, m2]) (by decide) e4
 have hz : parE p.lens all x = 0 := by simp [parE, hasT, hq, hq2, hf, m1, m2]
 rw [hz, if_neg (fun h => h rfl)] at hgo
 have lx4 := (List.getElem?_eq_some_iff.1 x4).1
 have lc4 := (List.getElem?_eq_some_iff.1 c4).1
 simp [x4, m1, m2, h0, c4, ↓oldP lx4, ↓oldP lc4]
 refine RowT.push (all := all) (r4.ext (Ext.app _ _)) ⟨x.name, !decide (x.mode = 1), x.mode⟩ (by omega) fun v' G7 r7 f7 l7 => ?_
 have n6 : ∀ cs st, no3 (LObj.cells cs st) := fun cs st R m k st' e => by cases e
 have c7 := f7 _ _ ((Ext.app G4 _).at_ c4) (n6 _ _)
 rcases r7 with ⟨_, r7⟩ | ⟨q7, k7, st7, rfl, hq7⟩
 ·simp at r7
 have lc7 := (List.getElem?_eq_some_iff.1 c7).1
 have ncq : c ≠ q7 := fun e => by subst e; rw [c7] at hq7; cases hq7
 simp [c7, h11]
 refine ⟨by omega, hNx _ _ _ ⟨N - 1, by omega, i + 1, _, rfl, by omega, by simp [h0], by simp [h9], by simp [h10], by simp, ⟨st1 + 1, .dy q7 k7, List.getElem?_set_self lc7, .inr ⟨q7, k7, st7, rfl, by rw [List.getElem?_set_ne ncq]; exact hq7⟩⟩, ⟨?_, fun z o hz z1 z2 z3 => ?_⟩, by simp [hal], hgo⟩⟩
 ·rw [List.length_set]
  have := hF.1
  have := e4.1
  simp at l7
  omega
 ·rw [List.getElem?_set_ne (fun e => z1 e.symm)]
  exact f7 _ _ ((Ext.app G4 _).at_ (e4.at_ (hF.2 z o hz z1 z2 z3))) z3
end heap
end Go.Proofs.Ytcbbilifblbblaa
