/- DenoteSwaps, walked. -/
import Derived.Test.YtnbnhnjffiagmaaGreatFnNk
namespace Go.Proofs.YtnbnhnjffiagmaaGreat
open Go.Sv
set_option linter.unusedSimpArgs false
set_option maxRecDepth 10000
def c_law20_DenoteSwaps : LC := (.seq (.ops [.z 5 (.box (.t 0)),.z 10 (.move (.c (.bool false)))]) (.seq (.seq (.ops [.z 21 (.callV (.c (.fn (.func 9) [] [])) []),.z 22 (.un .not (.t 21))]) (.cond (.t 22) (.seq (.ops [.z 10 (.move (.c (.bool false)))]) .ret) .skip)) (.seq (.seq (.ops [.z 23 (.loadN 3 (.t 5)),.m 24 1,.z 25 (.callV (.c (.fn (.func 20) [] [])) [.t 23,.t 24]),.z 26 (.un .not (.t 25)),.m 27 26,⟨some 28,(some (27,false)),.loadN 3 (.t 5)⟩,⟨some 29,(some (27,false)),.callV (.c (.fn (.func 37) [] [])) [.t 28]⟩,⟨some 30,(some (27,false)),.bin .neq true 32 (.t 29) (.c (.i 0))⟩,.z 31 (.pick (.t 27) (.c (.bool true)) (.t 30))]) (.cond (.t 31) (.seq (.ops [.z 10 (.move (.c (.bool true)))]) .ret) .skip)) (.seq (.ops [.f 32 0 5,.l 33 32,.z 34 (.lenSl (.t 33)),.m 11 34]) (.seq (.ops [.m 35 2,.m 36 11,.z 37 (.callV (.c (.fn (.func 36) [] [])) [.t 35,.t 36]),.m 38 3,.m 39 11,.z 40 (.callV (.c (.fn (.func 36) [] [])) [.t 38,.t 39]),.m 41 4,.m 42 11,.z 43 (.callV (.c (.fn (.func 36) [] [])) [.t 41,.t 42]),.m 2 37,.m 3 40,.m 4 43]) (.seq (.ops [.m 44 2,.m 45 3,.m 46 4,.z 47 (.build [(.i 0),(.i 0),(.i 0),(.i 0),(.i 0),(.i 0),(.u 0)] [(0,1,.c (.i 14)),(1,1,.t 44),(2,1,.t 45),(3,1,.c (.i (-1))),(4,1,.c (.i (-1))),(5,1,.t 46)]),.z 12 (.alloc [(.i 0),(.i 0),(.i 0),(.i 0),(.i 0),(.i 0),(.u 0)]),⟨none,none,.store 7 (.t 12) (.t 47)⟩]) (.seq (.ops [.z 49 (.loadN 3 (.t 5)),.m 50 1,.z 51 (.callV (.c (.fn (.func 11) [] [])) [.t 49,.t 50]),.m 48 51,.z 52 (.extract 0 (.t 48)),.z 53 (.extract 1 (.t 48)),.m 13 52,.m 14 53]) (.seq (.ops [.z 54 (.loadN 3 (.t 5)),.z 55 (.callV (.c (.fn (.func 35) [] [])) [.t 54]),.z 15 (.alloc [.nilSl,.nilSl,.nilSl]),⟨none,none,.store 3 (.t 15) (.t 55)⟩]) (.seq (.ops [.f 56 1 15,.l 57 56,.z 58 (.loadN 7 (.t 12)),.z 59 (.loadN 7 (.t 12)),.z 60 (.buildSl 7 2 [(.i 0),(.i 0),(.i 0),(.i 0),(.i 0),(.i 0),(.u 0),(.i 0),(.i 0),(.i 0),(.i 0),(.i 0),(.i 0),(.u 0)] [(0,7,.t 58),(7,7,.t 59)]),.z 61 (.appG 7 (.t 57) (.t 60)),.f 62 1 15,⟨none,none,.store 1 (.t 62) (.t 61)⟩]) (.seq (.seq (.ops [.z 63 (.loadN 3 (.t 15)),.z 64 (.callV (.c (.fn (.func 37) [] [])) [.t 63]),.z 65 (.bin .eql true 32 (.t 64) (.c (.i 0))),.m 66 65,⟨some 67,(some (66,true)),.move (.t 4)⟩,⟨some 68,(some (66,true)),.move (.t 2)⟩,⟨some 69,(some (66,true)),.bin .neq false 3 (.t 67) (.t 68)⟩,.z 70 (.pick (.t 66) (.t 69) (.c (.bool false))),.m 71 70,⟨some 72,(some (71,true)),.move (.t 4)⟩,⟨some 73,(some (71,true)),.move (.t 3)⟩,⟨some 74,(some (71,true)),.bin .neq false 3 (.t 72) (.t 73)⟩,.z 75 (.pick (.t 71) (.t 74) (.c (.bool false)))]) (.cond (.t 75) (.seq (.ops [.z 77 (.loadN 3 (.t 15)),.m 78 1,.z 79 (.callV (.c (.fn (.func 11) [] [])) [.t 77,.t 78]),.m 76 79,.z 80 (.extract 0 (.t 76)),.z 81 (.extract 1 (.t 76)),.m 16 80,.m 17 81]) (.seq (.ops [.m 82 14,.m 83 17,.z 84 (.bin .neq false 32 (.t 82) (.t 83)),.m 85 84,⟨some 86,(some (85,false)),.move (.t 13)⟩,⟨some 87,(some (85,false)),.move (.t 16)⟩,⟨some 88,(some (85,false)),.callV (.c (.fn (.func 25) [] [])) [.t 86,.t 87]⟩,⟨some 89,(some (85,false)),.un .not (.t 88)⟩,.z 90 (.pick (.t 85) (.c (.bool true)) (.t 89))]) (.cond (.t 90) (.seq (.ops [.z 10 (.move (.c (.bool false)))]) .ret) .skip))) .skip)) (.seq (.ops [.z 91 (.loadN 3 (.t 5)),.z 92 (.callV (.c (.fn (.func 35) [] [])) [.t 91]),.z 18 (.alloc [.nilSl,.nilSl,.nilSl]),⟨none,none,.store 3 (.t 18) (.t 92)⟩]) (.seq (.draw [(.f 93 1 18,[]),(.l 94 93,[]),(.m 95 2,[]),(.m 96 2,[]),(.m 97 2,[]),(.m 98 4,[]),(.z 99 (.callV (.c (.fn (.func 13) [] [])) [(.c (.i 8)),.t 95,.t 96,.t 97,.t 98,.c (.u 0)]),[(.l 94 93,false)]),(.z 100 (.buildSl 7 1 [(.i 0),(.i 0),(.i 0),(.i 0),(.i 0),(.i 0),(.u 0)] [(0,7,.t 99)]),[(.l 94 93,false)]),(.z 101 (.appG 7 (.t 94) (.t 100)),[]),(.f 102 1 18,[]),(⟨none,none,.store 1 (.t 102) (.t 101)⟩,[])]) (.seq (.seq (.ops [.z 103 (.loadN 3 (.t 18)),.z 104 (.callV (.c (.fn (.func 37) [] [])) [.t 103]),.z 105 (.bin .neq true 32 (.t 104) (.c (.i 0)))]) (.cond (.t 105) (.seq (.ops [.z 10 (.move (.c (.bool true)))]) .ret) .skip)) (.seq (.ops [.z 107 (.loadN 3 (.t 18)),.m 108 1,.z 109 (.callV (.c (.fn (.func 11) [] [])) [.t 107,.t 108]),.m 106 109,.z 110 (.extract 0 (.t 106)),.z 111 (.extract 1 (.t 106)),.m 19 110,.m 20 111]) (.seq (.ops [.m 112 14,.m 113 20,.z 114 (.bin .eql false 32 (.t 112) (.t 113)),.m 115 114,⟨some 116,(some (115,true)),.move (.t 13)⟩,⟨some 117,(some (115,true)),.move (.t 19)⟩,⟨some 118,(some (115,true)),.callV (.c (.fn (.func 25) [] [])) [.t 116,.t 117]⟩,.z 119 (.pick (.t 115) (.t 118) (.c (.bool false))),.m 10 119]) .ret)))))))))))))))
theorem r_law20_DenoteSwaps : resFn Tryz.prog 8 = some ⟨120, c_law20_DenoteSwaps.r, [.tmp 10]⟩ := by kernel_rfl
theorem k_law20_DenoteSwaps : c_law20_DenoteSwaps.ok = true := by kernel_rfl
theorem law20_DenoteSwaps_run (vs : List Vr) (os rs : List Ko) (ins : List (List UInt64)) (d e c : Int) (hl1 : vs.length ≤ 9223372036854775807) (_ : os.length ≤ 9223372036854775807) (_ : rs.length ≤ 9223372036854775807) (hn : ins.length ≤ 9223372036854775807)
  (_ : -9223372036854775808 ≤ d ∧ d < 9223372036854775808) (_ : -9223372036854775808 ≤ e ∧ e < 9223372036854775808) (_ : -9223372036854775808 ≤ c ∧ c < 9223372036854775808) : CallL Tryz.prog (.fn 8) [.agg (kerC vs os rs), LN ins, .i d, .i e, .i c] [] fun v _ => v = .bool true := by
 have hkd : dats (kerC vs os rs) = true := by simp [kerC, dats, LV.dat, vsC_dats, osC_dats]
 have hdd : dats [.agg (kerC vs os rs), LN ins] = true := by simp [dats, LV.dat, hkd, LN, LN_dats]
 have hk3 : (kerC vs os rs).length = 3 := rfl
 have hkt : (kerC vs os rs).take 3 = kerC vs os rs := rfl
 have hk0 : (kerC vs os rs)[0]? = some (.lst (vsC vs) vs.length 3) := rfl
 refine call_body r_law20_DenoteSwaps k_law20_DenoteSwaps (by simp) ?_
 simp [c_law20_DenoteSwaps]
 refine CallL_F law20_lives_ok (by simp) ?_
 simp [hk3, hkt]
 refine CallL_F (law20_light_ok vs os rs ins hl1 hn) (bors_self _ hdd) ?_
 cases hL : lightD vs os rs ins with
 | false => simp
 | true =>
 obtain ⟨v1, v2, v3, v4, v5, v6⟩ := lightD_parts hL
 have hi : ∀ x ∈ ins, x.length ≤ 1000 := fun x hx => by have := v5 x hx; omega
 simp [hk3, hkt]
 refine CallL_F (ref19_Check_ok vs os rs hl1) (bors_self _ (by simp [dats, LV.dat, hkd])) ?_
 cases hc : chkB vs os rs with
 | false => simp [chkE, hc]
 | true =>
 have hv : varsB vs = true := by unfold chkB at hc; simp only [Bool.and_eq_true] at hc; exact hc.1
 have hv1 := (varsB_len hv).1
 have hs3 := v6 hc
 obtain ⟨dn, hd, hpd⟩ := kit_Pick_ok d vs.length (by omega)
 obtain ⟨en, he, hpe⟩ := kit_Pick_ok e vs.length (by omega)
 obtain ⟨cn, hcn, hpc⟩ := kit_Pick_ok c vs.length (by omega)
 have hR := runs_len (vs := vs) (os := os) (rs := rs) (ns := ins.map val) (by omega)
 simp [chkE, hc, hk3, nthL_at hk0]
 refine CallL_F hpd (by simp) ?_
 simp
 refine CallL_F hpe (by simp) ?_
 simp
 refine CallL_F hpc (by simp) ?_
 simp [hk3, hkt]
 refine CallL_V (Run_ok vs os rs ins hl1 hi) hdd ?_
 simp [hk3, hkt]
 refine OwnKern_any (by omega) (by omega) (by omega) fun G2 p hke hp h0 h1 h2 => ?_
 have h0 : G2[0]? = some (.cells (kerC vs os rs) 0) := hke.at (by simp)
 have hs1 : G2[1]? = some (.cells [.i 14, .i dn, .i en, .i (-1), .i (-1), .i cn, .u 0] 1) := hke.at (by simp)
 simp at hp
 have l2 : p + 2 < G2.length := (List.getElem?_eq_some_iff.1 h2).1
 have l0 : 0 < G2.length := by omega
 have l1 : 1 < G2.length := by omega
 have lq : p + 1 < G2.length := by omega
 have hap : osC os ++ [.i 14, .i dn, .i en, .i (-1), .i (-1), .i cn, .u 0, .i 14, .i dn, .i en, .i (-1), .i (-1), .i cn, .u 0] = osC (os ++ [⟨14, dn, en, -1, -1, cn, 0⟩, ⟨14, dn, en, -1, -1, cn, 0⟩]) := by simp [osC, Ko.f]
 have e1 : ∀ a b y, ((G2 ++ [a, b]).set (p + 1) y)[G2.length]? = some a := fun a b y => by
  rw [List.getElem?_set_ne (by omega), List.getElem?_append_right (Nat.le_refl _), Nat.sub_self]; rfl
 have e2 : ∀ a b y z, (((G2 ++ [a, b]).set (p + 1) y).set G2.length z)[G2.length]? = some z := fun a b y z => List.getElem?_set_self (by simp)
 obtain ⟨sw, hsw⟩ : ∃ sw : Ko, sw = ⟨14, dn, en, -1, -1, cn, 0⟩ := ⟨_, rfl⟩
 rw [← hsw] at hap
 have hlen2 : os.length + 2 = (os ++ [sw, sw]).length := by simp
 simp [↓old1 l1, hs1, ↓old1 lq, h1, hap, ↓e1, ↓e2]
 obtain ⟨G4, hG4⟩ : ∃ G4, G4 = ((G2 ++ [LObj.cells [.dy p 0, .dy (p + 1) 0, .dy (p + 2) 0] 1, .dyn [.i 14, .i dn, .i en, .i (-1), .i (-1), .i cn, .u 0, .i 14, .i dn, .i en, .i (-1), .i (-1), .i cn, .u 0] 2 7 0 0]).set (p + 1) (.dyn (osC (os ++ [sw, sw])) (os.length + 2) 7 1 1)).set G2.length (.cells [.dy p 0, .dy (p + 1) 1, .dy (p + 2) 0] 2) := ⟨_, rfl⟩
 rw [← hG4]
 have q0 : G4[0]? = some (.cells (kerC vs os rs) 0) := by rw [hG4, List.getElem?_set_ne (by omega), List.getElem?_set_ne (by omega), old1 l0]; exact h0
 have qp : G4[p]? = some (.dyn (vsC vs) vs.length 3 0 0) := by rw [hG4, List.getElem?_set_ne (by omega), List.getElem?_set_ne (by omega), old1 (by omega)]; assumption
 have qq : G4[p + 1]? = some (.dyn (osC (os ++ [sw, sw])) (os ++ [sw, sw]).length 7 1 1) := by rw [hG4, List.getElem?_set_ne (by omega), List.getElem?_set_self (by simp; omega), hlen2]
 have qr : G4[p + 2]? = some (.dyn (osC rs) rs.length 7 0 0) := by rw [hG4, List.getElem?_set_ne (by omega), List.getElem?_set_ne (by omega), old1 l2]; exact h2
 have qc : G4[G2.length]? = some (.cells [.dy p 0, .dy (p + 1) 1, .dy (p + 2) 0] 2) := by rw [hG4]; exact e2 _ _ _ _
 have lG4 : G2.length < G4.length := (List.getElem?_eq_some_iff.1 qc).1
 clear hG4
 refine ⟨by omega, check_own (vs := vs) (os := os ++ [sw, sw]) (rs := rs) hl1 qp qq qr ?_⟩
 have hc0 : sw.kind = 14 := by rw [hsw]
 by_cases hgo : chkB vs (os ++ [sw, sw]) rs = true ∧ cn ≠ dn ∧ cn ≠ en
 ·obtain ⟨hco, hcd, hce⟩ := hgo
  have hsame := run_swap (ns := ins.map val) hc hs3 hco hc0 (by rw [hsw]; show (cn : Int) ≠ dn; omega) (by rw [hsw]; show (cn : Int) ≠ en; omega)
  have hcd' : ¬ (cn : Int) = dn := by omega
  have hce' : ¬ (cn : Int) = en := by omega
  simp [chkE, hco, hcd', hce', qc]
  refine run_own (vs := vs) (os := os ++ [sw, sw]) (rs := rs) hl1 hi qp qq qr (by omega) (by omega) (by omega) fun G5 l5 f5 => ?_
  rw [hsame]
  have q05 : G5[0]? = some (.cells (kerC vs os rs) 0) := by rw [f5 0 (by omega) (by omega) (by omega)]; exact q0
  simp [LN]
  refine same_runs hR hR ?_
  simp [q05, hk3, hkt]
  refine OwnKern_any (by omega) (by omega) (by omega) fun G6 p6 hke6 hp6 w0 w1 w2 => ?_
  have l6 : p6 + 2 < G6.length := (List.getElem?_eq_some_iff.1 w2).1
  have lq6 : p6 + 1 < G6.length := by omega
  simp
  refine CallL_F (law20_op_ok 8 dn dn dn cn 0) (by simp) ?_
  have f1 : ∀ a b y, ((G6 ++ [a, b]).set (p6 + 1) y)[G6.length]? = some a := fun a b y => by
   rw [List.getElem?_set_ne (by omega), List.getElem?_append_right (Nat.le_refl _), Nat.sub_self]; rfl
  have f2 : ∀ a b y z, (((G6 ++ [a, b]).set (p6 + 1) y).set G6.length z)[G6.length]? = some z := fun a b y z => List.getElem?_set_self (by simp)
  obtain ⟨sl, hsl⟩ : ∃ sl : Ko, sl = ⟨8, dn, -1, dn, dn, cn, 0⟩ := ⟨_, rfl⟩
  have hap6 : osC os ++ [.i 8, .i dn, .i (-1), .i dn, .i dn, .i cn, .u 0] = osC (os ++ [sl]) := by rw [hsl]; simp [osC, Ko.f]
  have hlen6 : os.length + 1 = (os ++ [sl]).length := by simp
  simp [Ko.f, ↓old1 lq6, w1, hap6, ↓f1, ↓f2]
  obtain ⟨G7, hG7⟩ : ∃ G7, G7 = ((G6 ++ [LObj.cells [.dy p6 0, .dy (p6 + 1) 0, .dy (p6 + 2) 0] 1, .dyn [.i 8, .i dn, .i (-1), .i dn, .i dn, .i cn, .u 0] 1 7 0 0]).set (p6 + 1) (.dyn (osC (os ++ [sl])) (os.length + 1) 7 1 1)).set G6.length (.cells [.dy p6 0, .dy (p6 + 1) 1, .dy (p6 + 2) 0] 2) := ⟨_, rfl⟩
  rw [← hG7]
  have tp : G7[p6]? = some (.dyn (vsC vs) vs.length 3 0 0) := by rw [hG7, List.getElem?_set_ne (by omega), List.getElem?_set_ne (by omega), old1 (by omega)]; exact w0
  have tq : G7[p6 + 1]? = some (.dyn (osC (os ++ [sl])) (os ++ [sl]).length 7 1 1) := by rw [hG7, List.getElem?_set_ne (by omega), List.getElem?_set_self (by simp; omega), hlen6]
  have tr : G7[p6 + 2]? = some (.dyn (osC rs) rs.length 7 0 0) := by rw [hG7, List.getElem?_set_ne (by omega), List.getElem?_set_ne (by omega), old1 l6]; exact w2
  have tc : G7[G6.length]? = some (.cells [.dy p6 0, .dy (p6 + 1) 1, .dy (p6 + 2) 0] 2) := by rw [hG7]; exact f2 _ _ _ _
  clear hG7
  refine ⟨by omega, check_own (vs := vs) (os := os ++ [sl]) (rs := rs) hl1 tp tq tr ?_⟩
  cases hcl : chkB vs (os ++ [sl]) rs with
  | false => simp [chkE, hcl]
  | true =>
   rw [hsl] at hcl
   have hsm := run_sel (ns := ins.map val) hc hs3 hcl
   rw [← hsl] at hcl hsm
   simp [chkE, hcl, tc]
   refine run_own (vs := vs) (os := os ++ [sl]) (rs := rs) hl1 hi tp tq tr (by omega) (by omega) (by omega) fun G8 l8 f8 => ?_
   rw [hsm]
   simp [LN]
   refine same_runs hR hR ?_
   simp
 ·obtain ⟨G5, h5⟩ : ∃ G5, G5 = G4 := ⟨_, rfl⟩
  have q05 : G5[0]? = some (.cells (kerC vs os rs) 0) := by rw [h5]; exact q0
  rw [← h5]
  clear qp qq qr qc lG4
  have hno : (chkB vs (os ++ [sw, sw]) rs = false) ∨ (chkB vs (os ++ [sw, sw]) rs = true ∧ cn = dn) ∨ (chkB vs (os ++ [sw, sw]) rs = true ∧ cn ≠ dn ∧ cn = en) := by
   cases hco : chkB vs (os ++ [sw, sw]) rs
   ·exact .inl rfl
   ·by_cases a : cn = dn
    ·exact .inr (.inl ⟨rfl, a⟩)
    ·by_cases b : cn = en
     ·exact .inr (.inr ⟨rfl, a, b⟩)
     ·exact absurd ⟨hco, a, b⟩ hgo
  rcases hno with hco | ⟨hco, hcd⟩ | ⟨hco, hcd, hce⟩
  ·simp [chkE, hco, q05, hk3, hkt]
   refine OwnKern_any (by omega) (by omega) (by omega) fun G6 p6 hke6 hp6 w0 w1 w2 => ?_
   have l6 : p6 + 2 < G6.length := (List.getElem?_eq_some_iff.1 w2).1
   have lq6 : p6 + 1 < G6.length := by omega
   simp
   refine CallL_F (law20_op_ok 8 dn dn dn cn 0) (by simp) ?_
   have f1 : ∀ a b y, ((G6 ++ [a, b]).set (p6 + 1) y)[G6.length]? = some a := fun a b y => by
    rw [List.getElem?_set_ne (by omega), List.getElem?_append_right (Nat.le_refl _), Nat.sub_self]; rfl
   have f2 : ∀ a b y z, (((G6 ++ [a, b]).set (p6 + 1) y).set G6.length z)[G6.length]? = some z := fun a b y z => List.getElem?_set_self (by simp)
   obtain ⟨sl, hsl⟩ : ∃ sl : Ko, sl = ⟨8, dn, -1, dn, dn, cn, 0⟩ := ⟨_, rfl⟩
   have hap6 : osC os ++ [.i 8, .i dn, .i (-1), .i dn, .i dn, .i cn, .u 0] = osC (os ++ [sl]) := by rw [hsl]; simp [osC, Ko.f]
   have hlen6 : os.length + 1 = (os ++ [sl]).length := by simp
   simp [Ko.f, ↓old1 lq6, w1, hap6, ↓f1, ↓f2]
   obtain ⟨G7, hG7⟩ : ∃ G7, G7 = ((G6 ++ [LObj.cells [.dy p6 0, .dy (p6 + 1) 0, .dy (p6 + 2) 0] 1, .dyn [.i 8, .i dn, .i (-1), .i dn, .i dn, .i cn, .u 0] 1 7 0 0]).set (p6 + 1) (.dyn (osC (os ++ [sl])) (os.length + 1) 7 1 1)).set G6.length (.cells [.dy p6 0, .dy (p6 + 1) 1, .dy (p6 + 2) 0] 2) := ⟨_, rfl⟩
   rw [← hG7]
   have tp : G7[p6]? = some (.dyn (vsC vs) vs.length 3 0 0) := by rw [hG7, List.getElem?_set_ne (by omega), List.getElem?_set_ne (by omega), old1 (by omega)]; exact w0
   have tq : G7[p6 + 1]? = some (.dyn (osC (os ++ [sl])) (os ++ [sl]).length 7 1 1) := by rw [hG7, List.getElem?_set_ne (by omega), List.getElem?_set_self (by simp; omega), hlen6]
   have tr : G7[p6 + 2]? = some (.dyn (osC rs) rs.length 7 0 0) := by rw [hG7, List.getElem?_set_ne (by omega), List.getElem?_set_ne (by omega), old1 l6]; exact w2
   have tc : G7[G6.length]? = some (.cells [.dy p6 0, .dy (p6 + 1) 1, .dy (p6 + 2) 0] 2) := by rw [hG7]; exact f2 _ _ _ _
   clear hG7
   refine ⟨by omega, check_own (vs := vs) (os := os ++ [sl]) (rs := rs) hl1 tp tq tr ?_⟩
   cases hcl : chkB vs (os ++ [sl]) rs with
   | false => simp [chkE, hcl]
   | true =>
    rw [hsl] at hcl
    have hsm := run_sel (ns := ins.map val) hc hs3 hcl
    rw [← hsl] at hcl hsm
    simp [chkE, hcl, tc]
    refine run_own (vs := vs) (os := os ++ [sl]) (rs := rs) hl1 hi tp tq tr (by omega) (by omega) (by omega) fun G8 l8 f8 => ?_
    rw [hsm]
    simp [LN]
    refine same_runs hR hR ?_
    simp
  ·have hcd' : ((cn : Int) = dn) = True := eq_true (by omega)
   simp [chkE, hco, hcd', q05, hk3, hkt]
   refine OwnKern_any (by omega) (by omega) (by omega) fun G6 p6 hke6 hp6 w0 w1 w2 => ?_
   have l6 : p6 + 2 < G6.length := (List.getElem?_eq_some_iff.1 w2).1
   have lq6 : p6 + 1 < G6.length := by omega
   simp
   refine CallL_F (law20_op_ok 8 dn dn dn cn 0) (by simp) ?_
   have f1 : ∀ a b y, ((G6 ++ [a, b]).set (p6 + 1) y)[G6.length]? = some a := fun a b y => by
    rw [List.getElem?_set_ne (by omega), List.getElem?_append_right (Nat.le_refl _), Nat.sub_self]; rfl
   have f2 : ∀ a b y z, (((G6 ++ [a, b]).set (p6 + 1) y).set G6.length z)[G6.length]? = some z := fun a b y z => List.getElem?_set_self (by simp)
   obtain ⟨sl, hsl⟩ : ∃ sl : Ko, sl = ⟨8, dn, -1, dn, dn, cn, 0⟩ := ⟨_, rfl⟩
   have hap6 : osC os ++ [.i 8, .i dn, .i (-1), .i dn, .i dn, .i cn, .u 0] = osC (os ++ [sl]) := by rw [hsl]; simp [osC, Ko.f]
   have hlen6 : os.length + 1 = (os ++ [sl]).length := by simp
   simp [Ko.f, ↓old1 lq6, w1, hap6, ↓f1, ↓f2]
   obtain ⟨G7, hG7⟩ : ∃ G7, G7 = ((G6 ++ [LObj.cells [.dy p6 0, .dy (p6 + 1) 0, .dy (p6 + 2) 0] 1, .dyn [.i 8, .i dn, .i (-1), .i dn, .i dn, .i cn, .u 0] 1 7 0 0]).set (p6 + 1) (.dyn (osC (os ++ [sl])) (os.length + 1) 7 1 1)).set G6.length (.cells [.dy p6 0, .dy (p6 + 1) 1, .dy (p6 + 2) 0] 2) := ⟨_, rfl⟩
   rw [← hG7]
   have tp : G7[p6]? = some (.dyn (vsC vs) vs.length 3 0 0) := by rw [hG7, List.getElem?_set_ne (by omega), List.getElem?_set_ne (by omega), old1 (by omega)]; exact w0
   have tq : G7[p6 + 1]? = some (.dyn (osC (os ++ [sl])) (os ++ [sl]).length 7 1 1) := by rw [hG7, List.getElem?_set_ne (by omega), List.getElem?_set_self (by simp; omega), hlen6]
   have tr : G7[p6 + 2]? = some (.dyn (osC rs) rs.length 7 0 0) := by rw [hG7, List.getElem?_set_ne (by omega), List.getElem?_set_ne (by omega), old1 l6]; exact w2
   have tc : G7[G6.length]? = some (.cells [.dy p6 0, .dy (p6 + 1) 1, .dy (p6 + 2) 0] 2) := by rw [hG7]; exact f2 _ _ _ _
   clear hG7
   refine ⟨by omega, check_own (vs := vs) (os := os ++ [sl]) (rs := rs) hl1 tp tq tr ?_⟩
   cases hcl : chkB vs (os ++ [sl]) rs with
   | false => simp [chkE, hcl]
   | true =>
    rw [hsl] at hcl
    have hsm := run_sel (ns := ins.map val) hc hs3 hcl
    rw [← hsl] at hcl hsm
    simp [chkE, hcl, tc]
    refine run_own (vs := vs) (os := os ++ [sl]) (rs := rs) hl1 hi tp tq tr (by omega) (by omega) (by omega) fun G8 l8 f8 => ?_
    rw [hsm]
    simp [LN]
    refine same_runs hR hR ?_
    simp
  ·have hcd' : ¬ (cn : Int) = dn := by omega
   have hce' : ((cn : Int) = en) = True := eq_true (by omega)
   simp [chkE, hco, hcd', hce', q05, hk3, hkt]
   refine OwnKern_any (by omega) (by omega) (by omega) fun G6 p6 hke6 hp6 w0 w1 w2 => ?_
   have l6 : p6 + 2 < G6.length := (List.getElem?_eq_some_iff.1 w2).1
   have lq6 : p6 + 1 < G6.length := by omega
   simp
   refine CallL_F (law20_op_ok 8 dn dn dn cn 0) (by simp) ?_
   have f1 : ∀ a b y, ((G6 ++ [a, b]).set (p6 + 1) y)[G6.length]? = some a := fun a b y => by
    rw [List.getElem?_set_ne (by omega), List.getElem?_append_right (Nat.le_refl _), Nat.sub_self]; rfl
   have f2 : ∀ a b y z, (((G6 ++ [a, b]).set (p6 + 1) y).set G6.length z)[G6.length]? = some z := fun a b y z => List.getElem?_set_self (by simp)
   obtain ⟨sl, hsl⟩ : ∃ sl : Ko, sl = ⟨8, dn, -1, dn, dn, cn, 0⟩ := ⟨_, rfl⟩
   have hap6 : osC os ++ [.i 8, .i dn, .i (-1), .i dn, .i dn, .i cn, .u 0] = osC (os ++ [sl]) := by rw [hsl]; simp [osC, Ko.f]
   have hlen6 : os.length + 1 = (os ++ [sl]).length := by simp
   simp [Ko.f, ↓old1 lq6, w1, hap6, ↓f1, ↓f2]
   obtain ⟨G7, hG7⟩ : ∃ G7, G7 = ((G6 ++ [LObj.cells [.dy p6 0, .dy (p6 + 1) 0, .dy (p6 + 2) 0] 1, .dyn [.i 8, .i dn, .i (-1), .i dn, .i dn, .i cn, .u 0] 1 7 0 0]).set (p6 + 1) (.dyn (osC (os ++ [sl])) (os.length + 1) 7 1 1)).set G6.length (.cells [.dy p6 0, .dy (p6 + 1) 1, .dy (p6 + 2) 0] 2) := ⟨_, rfl⟩
   rw [← hG7]
   have tp : G7[p6]? = some (.dyn (vsC vs) vs.length 3 0 0) := by rw [hG7, List.getElem?_set_ne (by omega), List.getElem?_set_ne (by omega), old1 (by omega)]; exact w0
   have tq : G7[p6 + 1]? = some (.dyn (osC (os ++ [sl])) (os ++ [sl]).length 7 1 1) := by rw [hG7, List.getElem?_set_ne (by omega), List.getElem?_set_self (by simp; omega), hlen6]
   have tr : G7[p6 + 2]? = some (.dyn (osC rs) rs.length 7 0 0) := by rw [hG7, List.getElem?_set_ne (by omega), List.getElem?_set_ne (by omega), old1 l6]; exact w2
   have tc : G7[G6.length]? = some (.cells [.dy p6 0, .dy (p6 + 1) 1, .dy (p6 + 2) 0] 2) := by rw [hG7]; exact f2 _ _ _ _
   clear hG7
   refine ⟨by omega, check_own (vs := vs) (os := os ++ [sl]) (rs := rs) hl1 tp tq tr ?_⟩
   cases hcl : chkB vs (os ++ [sl]) rs with
   | false => simp [chkE, hcl]
   | true =>
    rw [hsl] at hcl
    have hsm := run_sel (ns := ins.map val) hc hs3 hcl
    rw [← hsl] at hcl hsm
    simp [chkE, hcl, tc]
    refine run_own (vs := vs) (os := os ++ [sl]) (rs := rs) hl1 hi tp tq tr (by omega) (by omega) (by omega) fun G8 l8 f8 => ?_
    rw [hsm]
    simp [LN]
    refine same_runs hR hR ?_
    simp
end Go.Proofs.YtnbnhnjffiagmaaGreat
