/- DenoteLoops, walked. -/
import Derived.Test.YtnbnhnjffiagmaaGreatFnNk
import Derived.Test.YtnbnhnjffiagmaaGreatSvG3
namespace Go.Proofs.YtnbnhnjffiagmaaGreat
open Go.Sv
set_option linter.unusedSimpArgs false
set_option maxRecDepth 10000
def c_law20_DenoteLoops : LC := (.seq (.ops [.z 2 (.box (.t 0)),.z 4 (.move (.c (.bool false)))]) (.seq (.seq (.ops [.z 14 (.callV (.c (.fn (.func 9) [] [])) []),.z 15 (.un .not (.t 14))]) (.cond (.t 15) (.seq (.ops [.z 4 (.move (.c (.bool false)))]) .ret) .skip)) (.seq (.seq (.ops [.z 16 (.loadN 3 (.t 2)),.m 17 1,.z 18 (.callV (.c (.fn (.func 20) [] [])) [.t 16,.t 17]),.z 19 (.un .not (.t 18)),.m 20 19,⟨some 21,(some (20,false)),.loadN 3 (.t 2)⟩,⟨some 22,(some (20,false)),.callV (.c (.fn (.func 37) [] [])) [.t 21]⟩,⟨some 23,(some (20,false)),.bin .neq true 32 (.t 22) (.c (.i 0))⟩,.z 24 (.pick (.t 20) (.c (.bool true)) (.t 23))]) (.cond (.t 24) (.seq (.ops [.z 4 (.move (.c (.bool true)))]) .ret) .skip)) (.seq (.ops [.z 25 (.loadN 3 (.t 2)),.z 26 (.callV (.c (.fn (.func 38) [] [])) [.t 25]),.m 5 26]) (.seq (.ops [.z 6 (.move (.c (.i (-1))))]) (.seq (.seq (.ops [.z 7 (.move (.c (.i 0)))]) (.block 0 (.loop (.seq (.seq (.ops [.m 27 7,.f 28 1 2,.l 29 28,.z 30 (.lenSl (.t 29)),.z 31 (.bin .lss false 3 (.t 27) (.t 30))]) (.cond (.t 31) .skip (.exit 0))) (.seq (.block 1 (.seq (.ops [.f 34 1 2,.l 35 34,.m 36 7,.z 37 (.ixAddr 7 (.t 35) (.t 36)),.f 38 0 37,.l 39 38,.z 40 (.bin .eql true 3 (.t 39) (.c (.i 15))),.m 41 40,⟨some 42,(some (41,true)),.fieldAddr 1 (.t 2)⟩,⟨some 43,(some (41,true)),.load1 (.t 42)⟩,⟨some 44,(some (41,true)),.move (.t 7)⟩,⟨some 45,(some (41,true)),.ixAddr 7 (.t 43) (.t 44)⟩,⟨some 46,(some (41,true)),.fieldAddr 6 (.t 45)⟩,⟨some 47,(some (41,true)),.load1 (.t 46)⟩,⟨some 48,(some (41,true)),.bin .leq true 28 (.t 47) (.c (.u 20))⟩,.z 49 (.pick (.t 41) (.t 48) (.c (.bool false)))]) (.cond (.t 49) (.ops [.m 50 7,.m 6 50]) .skip))) (.ops [.m 32 7,.z 33 (.bin .add true 3 (.t 32) (.c (.i 1))),.m 7 33])))))) (.seq (.seq (.ops [.m 51 6,.z 52 (.bin .lss true 3 (.t 51) (.c (.i 0)))]) (.cond (.t 52) (.seq (.ops [.z 4 (.move (.c (.bool true)))]) .ret) .skip)) (.seq (.draw [(.f 53 0 2,[]),(.l 54 53,[]),(.f 55 2 2,[]),(.l 56 55,[]),(.z 57 (.buildSl 7 0 [] []),[(.l 56 55,false),(.l 54 53,false)]),(.f 58 1 2,[]),(.l 59 58,[]),(.m 60 6,[]),(.z 61 (.slSl 7 (.t 59) none (some (.t 60))),[]),(.z 8 (.alloc [.nilSl,.nilSl,.nilSl]),[(.l 59 58,false),(.z 57 (.buildSl 7 0 [] []),true),(.l 56 55,false),(.l 54 53,false)]),(.z 62 (.appG 7 (.t 57) (.t 61)),[(.z 8 (.alloc [.nilSl,.nilSl,.nilSl]),true),(.l 56 55,false),(.l 54 53,false)]),(.z 63 (.build [.nilSl,.nilSl,.nilSl] [(0,1,.t 54),(2,1,.t 56),(1,1,.t 62)]),[]),(⟨none,none,.store 3 (.t 8) (.t 63)⟩,[])]) (.seq (.seq (.ops [.z 9 (.move (.c (.u 0)))]) (.block 2 (.loop (.seq (.seq (.ops [.m 64 9,.f 65 1 2,.l 66 65,.m 67 6,.z 68 (.ixAddr 7 (.t 66) (.t 67)),.f 69 6 68,.l 70 69,.z 71 (.bin .lss false 28 (.t 64) (.t 70))]) (.cond (.t 71) .skip (.exit 2))) (.seq (.block 3 (.draw [(.f 74 1 8,[]),(.l 75 74,[]),(.f 76 1 2,[]),(.l 77 76,[]),(.m 78 6,[]),(.z 79 (.bin .add true 3 (.t 78) (.c (.i 1))),[]),(.m 80 5,[]),(.m 81 6,[]),(.z 82 (.ixAddr 1 (.t 80) (.t 81)),[]),(.l 83 82,[]),(.z 84 (.slSl 7 (.t 77) (some (.t 79)) (some (.t 83))),[]),(.z 85 (.appG 7 (.t 75) (.t 84)),[]),(.f 86 1 8,[]),(⟨none,none,.store 1 (.t 86) (.t 85)⟩,[])])) (.ops [.m 72 9,.z 73 (.bin .add true 28 (.t 72) (.c (.u 1))),.m 9 73])))))) (.seq (.draw [(.f 87 1 8,[]),(.l 88 87,[]),(.f 89 1 2,[]),(.l 90 89,[]),(.m 91 5,[]),(.m 92 6,[]),(.z 93 (.ixAddr 1 (.t 91) (.t 92)),[]),(.l 94 93,[]),(.z 95 (.bin .add true 3 (.t 94) (.c (.i 1))),[]),(.z 96 (.slSl 7 (.t 90) (some (.t 95)) none),[]),(.z 97 (.appG 7 (.t 88) (.t 96)),[]),(.f 98 1 8,[]),(⟨none,none,.store 1 (.t 98) (.t 97)⟩,[])]) (.seq (.ops [.z 100 (.loadN 3 (.t 2)),.m 101 1,.z 102 (.callV (.c (.fn (.func 11) [] [])) [.t 100,.t 101]),.m 99 102,.z 103 (.extract 0 (.t 99)),.z 104 (.extract 1 (.t 99)),.m 10 103,.m 11 104]) (.seq (.ops [.z 106 (.loadN 3 (.t 8)),.m 107 1,.z 108 (.callV (.c (.fn (.func 11) [] [])) [.t 106,.t 107]),.m 105 108,.z 109 (.extract 0 (.t 105)),.z 110 (.extract 1 (.t 105)),.m 12 109,.m 13 110]) (.seq (.draw [(.m 111 11,[]),(.m 112 13,[]),(.z 113 (.bin .eql false 32 (.t 111) (.t 112)),[]),(.m 114 113,[]),(⟨some 115,(some (114,true)),.move (.t 10)⟩,[]),(⟨some 116,(some (114,true)),.move (.t 12)⟩,[]),(⟨some 117,(some (114,true)),.callV (.c (.fn (.func 25) [] [])) [.t 115,.t 116]⟩,[]),(.z 118 (.pick (.t 114) (.t 117) (.c (.bool false))),[]),(.m 119 118,[]),(⟨some 120,(some (119,true)),.loadN 3 (.t 2)⟩,[]),(⟨some 122,(some (119,true)),.loadN 3 (.t 8)⟩,[]),(⟨some 121,(some (119,true)),.callV (.c (.fn (.func 17) [] [])) [.t 120]⟩,[(⟨some 122,(some (119,true)),.loadN 3 (.t 8)⟩,false)]),(⟨some 123,(some (119,true)),.callV (.c (.fn (.func 17) [] [])) [.t 122]⟩,[]),(⟨some 124,(some (119,true)),.bin .gtr false 3 (.t 121) (.t 123)⟩,[]),(.z 125 (.pick (.t 119) (.t 124) (.c (.bool false))),[]),(.m 4 125,[])]) .ret)))))))))))))
theorem r_law20_DenoteLoops : resFn Tryz.prog 7 = some ⟨126, c_law20_DenoteLoops.r, [.tmp 4]⟩ := by kernel_rfl
theorem k_law20_DenoteLoops : c_law20_DenoteLoops.ok = true := by kernel_rfl
theorem run_mid {G : LHeap} {vs : List Vr} {os rs : List Ko} {ins : List (List UInt64)} {q c kq sq sc : Nat} {K : LV → LHeap → Prop} (hl1 : vs.length ≤ 9223372036854775807) (hi : ∀ x ∈ ins, x.length ≤ 1000) (hq : G[q]? = some (.dyn (osC os) os.length 7 kq sq)) (hc : G[c]? = some (.cells [.lst (vsC vs) vs.length 3, .dy q kq, .lst (osC rs) rs.length 7] sc))
  (k : ∀ G', G.length ≤ G'.length → (∀ x, x ≠ c → x ≠ q → G'[x]? = G[x]?) → G'[c]? = some (.cells (kerC vs os rs) (sc + 1)) → K (.tup [LN (runD vs os rs (ins.map val)).1, .i (runD vs os rs (ins.map val)).2]) G') : CallL Tryz.prog (.fn 11) [.agg [.lst (vsC vs) vs.length 3, .dy q kq, .lst (osC rs) rs.length 7], LN ins] G K := by
 have hdd : dats [.agg (kerC vs os rs), LN ins] = true := by simp [dats, LV.dat, kerC, vsC_dats, osC_dats, LN, LN_dats]
 have hcl : c < G.length := (List.getElem?_eq_some_iff.1 hc).1
 refine CallL_fzC (args' := [.agg (kerC vs os rs), LN ins]) (a := [.lst (vsC vs) vs.length 3]) (b := [.lst (osC rs) rs.length 7]) hq hc (fun c c' r hle hx ha => ?_) (CallL_V (Run_ok vs os rs ins hl1 hi) hdd (k _ (by simp) (fun x x1 x2 => ?_) (List.getElem?_set_self (by simpa using hcl))))
 ·cases ha with
  | cons e es => cases e with
   | agg e => cases e with
    | cons e1 e2 => cases e2 with
     | cons e2 e3 => exact .cons (.agg (.cons (e1.mono hle) (.cons (hx _ e2) (e3.mono hle)))) (es.mono hle)
 ·rw [List.getElem?_set_ne (Ne.symm x1), List.getElem?_set_ne (Ne.symm x2)]
theorem law20_DenoteLoops_run (vs : List Vr) (os rs : List Ko) (ins : List (List UInt64)) (hl1 : vs.length ≤ 9223372036854775807) (_ : os.length ≤ 9223372036854775807) (_ : rs.length ≤ 9223372036854775807) (hn : ins.length ≤ 9223372036854775807) : CallL Tryz.prog (.fn 7) [.agg (kerC vs os rs), LN ins] [] fun v _ => v = .bool true := by
 have hkd : dats (kerC vs os rs) = true := by simp [kerC, dats, LV.dat, vsC_dats, osC_dats]
 have hdd : dats [.agg (kerC vs os rs), LN ins] = true := by simp [dats, LV.dat, hkd, LN, LN_dats]
 have hk3 : (kerC vs os rs).length = 3 := rfl
 have hkt : (kerC vs os rs).take 3 = kerC vs os rs := rfl
 have hk0 : (kerC vs os rs)[0]? = some (.lst (vsC vs) vs.length 3) := rfl
 have hk1 : (kerC vs os rs)[1]? = some (.lst (osC os) os.length 7) := rfl
 have hk2 : (kerC vs os rs)[2]? = some (.lst (osC rs) rs.length 7) := rfl
 refine call_body r_law20_DenoteLoops k_law20_DenoteLoops (by simp) ?_
 simp [c_law20_DenoteLoops]
 refine CallL_F law20_lives_ok (by simp) ?_
 simp [hk3, hkt]
 refine CallL_F (law20_light_ok vs os rs ins hl1 hn) (bors_self _ hdd) ?_
 cases hL : lightD vs os rs ins with
 | false => simp
 | true =>
 obtain ⟨v1, v2, v3, v4, v5, v6⟩ := lightD_parts hL
 have hi : ∀ x ∈ ins, x.length ≤ 1000 := fun x hx => by have := v5 x hx; omega
 simp [hk3, hkt]
 refine CallL_F (ref19_Check_ok vs os rs hl1) (bors_self _ (by simp [dats, LV.dat, hkd])) ?_
 cases hc : chkB vs os rs with
 | false => simp [chkE, hc]
 | true =>
 have hs3 := v6 hc
 have hR := fun os => runs_len (vs := vs) (os := os) (rs := rs) (ns := ins.map val) (by omega)
 simp [chkE, hc, hk3, hkt]
 refine CallL_V (ref19_Ends_ok vs os rs hl1) (by simp [dats, LV.dat, hkd]) ?_
 have hez : endsZ vs os rs = endsL kdK os := by simp [endsZ, hc]
 rw [hez]
 have hel : (endsL kdK os).length = os.length := by
  obtain ⟨f, w, rfl, _⟩ := chk_tree hc
  rw [endsL_tree w, Fr.ends_len, Fr.flat_len]
 simp
 refine loop_nx (fun ρ D G N => ∃ (i : Nat) (at' : Int) (z : Nat), D = [] ∧ N + i = os.length ∧ lk ρ 1 = LN ins ∧ lk ρ 2 = .ptr z 0 ∧ lk ρ 5 = .lst ((endsL kdK os).map .i) (endsL kdK os).length 1 ∧ lk ρ 6 = .i at' ∧ lk ρ 7 = .i i ∧ z < G.length ∧ G[z]? = some (.cells (kerC vs os rs) 0) ∧ (at' = -1 ∨ ∃ j : Nat, at' = j ∧ j < os.length ∧ (go os j).kind = 15 ∧ (go os j).imm.toNat ≤ 20)) (N := os.length)
  ⟨0, -1, 0, rfl, by omega, by simp [LN], by simp, by simp, by simp, by simp, by simp, by simp, .inl rfl⟩ ?_
 rintro N ρ D G ⟨i, at', z, rfl, hN, h1, h2, h5, h6, h7, hl, hG, hat⟩ Nx hNx
 by_cases g : i < os.length
 ·have qk : (osC os)[i * 7]? = some (.i (go os i).kind) := by have := fm_at Ko.f_len (at_go g) (j := 0) (by omega); simpa [osC, Ko.f] using this
  have qi : (osC os)[i * 7 + 6]? = some (.u (go os i).imm) := by have := fm_at Ko.f_len (at_go g) (j := 6) (by omega); simpa [osC, Ko.f] using this
  by_cases k15 : (go os i).kind = 15
  ·by_cases him : (go os i).imm ≤ 20
   ·simp [h1, h2, h5, h6, h7, hG, hk3, nthL_at hk1, g, nthL_at qk, nthL_at qi, k15, him]
    exact ⟨by omega, hNx _ _ _ ⟨N - 1, by omega, i + 1, i, z, rfl, by omega, by simp [h1], by simp [h2], by simp [h5], by simp, by simp, hl, hG, .inr ⟨i, rfl, g, k15, UInt64.le_iff_toNat_le.1 him⟩⟩⟩
   ·simp [h1, h2, h5, h6, h7, hG, hk3, nthL_at hk1, g, nthL_at qk, nthL_at qi, k15, him]
    exact ⟨by omega, hNx _ _ _ ⟨N - 1, by omega, i + 1, at', z, rfl, by omega, by simp [h1], by simp [h2], by simp [h5], by simp [h6], by simp, hl, hG, hat⟩⟩
  ·simp [h1, h2, h5, h6, h7, hG, hk3, nthL_at hk1, g, nthL_at qk, nthL_at qi, k15]
   exact ⟨by omega, hNx _ _ _ ⟨N - 1, by omega, i + 1, at', z, rfl, by omega, by simp [h1], by simp [h2], by simp [h5], by simp [h6], by simp, hl, hG, hat⟩⟩
 rcases hat with rfl | ⟨j, rfl, hj, k15, him⟩
 ·simp [h1, h2, h5, h6, h7, hG, hk3, nthL_at hk1, g]
 obtain ⟨e, he1, he2, he3, he4, he5⟩ := run_unroll (ns := ins.map val) hc hs3 v2 (at_go hj) k15 him
 have qe : ((endsL kdK os).map LV.i)[j]? = some (.i e) := map_at he1
 have hje : j < (endsL kdK os).length := by omega
 have qi : (osC os)[j * 7 + 6]? = some (.u (go os j).imm) := by have := fm_at Ko.f_len (at_go hj) (j := 6) (by omega); simpa [osC, Ko.f] using this
 generalize (go os j).imm = im at *
 have hjl : j * 7 + 7 ≤ (osC os).length := os_lt hj
 have htk : List.take (j * 7) (osC os) = osC (os.take j) := osC_take os j
 simp [h1, h2, h5, h6, h7, hG, hk3, nthL_at hk0, nthL_at hk1, nthL_at hk2, g, ↓old1 hl, htk]
 obtain ⟨body, hbody⟩ : ∃ body, (os.drop (j + 1)).take (e - (j + 1)) = body := ⟨_, rfl⟩
 rw [hbody] at he4 he5
 have hbl : body.length ≤ 40 := by rw [← hbody]; simp; omega
 refine ⟨by omega, by omega, ?_⟩
 have htk2 : List.take ((e - (j + 1)) * 7) (List.drop ((j + 1) * 7) (osC os)) = osC body := by rw [osC_drop, osC_take, hbody]
 have htk3 : List.take ((os.length - (e + 1)) * 7) (List.drop ((e + 1) * 7) (osC os)) = osC (os.drop (e + 1)) := by rw [osC_drop, osC_take, List.take_of_length_le (by simp)]
 have hbl2 : body.length = e - (j + 1) := by rw [← hbody]; simp; omega
 clear hNx
 refine loop_nx (fun ρ D G' N => ∃ (m : Nat) (cur : List Ko) (kv st sc : Nat), D = [] ∧ N + m = im.toNat ∧ lk ρ 1 = LN ins ∧ lk ρ 2 = .ptr z 0 ∧ lk ρ 5 = .lst ((endsL kdK os).map .i) (endsL kdK os).length 1 ∧ lk ρ 6 = .i j ∧ lk ρ 8 = .ptr (G.length + 1) 0 ∧ lk ρ 9 = .u (UInt64.ofNat m) ∧ G.length + 1 < G'.length ∧ G'[z]? = some (.cells (kerC vs os rs) 0) ∧ G'[G.length]? = some (.dyn (osC cur) cur.length 7 kv st) ∧ G'[G.length + 1]? = some (.cells [.lst (vsC vs) vs.length 3, .dy G.length kv, .lst (osC rs) rs.length 7] sc) ∧ cur = os.take j ++ (List.replicate m body).flatten ∧ cur.length ≤ 40 + m * 40) (N := im.toNat)
  ⟨0, os.take j, 1, 1, 1, rfl, by omega, by simp [h1], by simp [h2], by simp [h5], by simp [h6], by simp, by simp, by simp, by rw [old1 hl]; exact hG, by simp; omega, by simp, by simp, by simp; omega⟩ ?_
 clear h1 h2 h5 h6 h7 hG
 rintro N ρ D G' ⟨m, cur, kv, st, sc, rfl, hN, h1, h2, h5, h6, h8, h9, hl', hG, hq, hcc, hcur, hcl⟩ Nx hNx
 have hofm : (UInt64.ofNat m).toNat = m := by rw [UInt64.toNat_ofNat']; omega
 have hlt : UInt64.ofNat m < im ↔ m < im.toNat := by rw [UInt64.lt_iff_toNat_lt, hofm]
 have lq : G.length < G'.length := by omega
 have lz : z < G'.length := by omega
 have sc1 : ∀ y, (G'.set G.length y)[G.length + 1]? = some (.cells [.lst (vsC vs) vs.length 3, .dy G.length kv, .lst (osC rs) rs.length 7] sc) := fun y => by rw [List.getElem?_set_ne (by omega)]; exact hcc
 by_cases g2 : m < im.toNat
 ·have hadd : addU (UInt64.ofNat m) 1 = UInt64.ofNat (m + 1) := by
   rw [addU_eq]
   apply UInt64.toNat_inj.1
   rw [UInt64.toNat_add, hofm, UInt64.toNat_ofNat']
   show (m + 1) % 2 ^ 64 = (m + 1) % 2 ^ 64
   rfl
  have g3 := hlt.2 g2
  simp [h1, h2, h5, h6, h8, h9, hG, hk3, nthL_at hk1, hj, nthL_at qi, nthL_at qe, hje, hcc, hq, g3, htk2, ↓sc1, hadd]
  have hl2 : cur.length + (e - (j + 1)) = (cur ++ body).length := by rw [List.length_append, hbl2]
  rw [hl2, ← osC_app]
  refine ⟨by omega, by omega, by omega, by omega, by omega, by omega, hNx _ _ _ ⟨N - 1, by omega, m + 1, cur ++ body, kv + 1, st + 1, sc + 1, rfl, by omega, by simp [h1], by simp [h2], by simp [h5], by simp [h6], by simp [h8], by simp, by simp; omega, ?_, ?_, ?_, ?_, by simp; omega⟩⟩
  ·rw [List.getElem?_set_ne (by omega), List.getElem?_set_ne (by omega)]; exact hG
  ·rw [List.getElem?_set_ne (by omega), List.getElem?_set_self lq]
  ·exact List.getElem?_set_self (by simp; omega)
  ·rw [hcur, List.replicate_succ', List.flatten_append, List.append_assoc]; simp
 ·have g3 : ¬ UInt64.ofNat m < im := fun h => g2 (hlt.1 h)
  have hm : m = im.toNat := by omega
  subst hm
  have sz : ∀ x y, ((G'.set G.length x).set (G.length + 1) y)[z]? = some (.cells (kerC vs os rs) 0) := fun x y => by rw [List.getElem?_set_ne (by omega), List.getElem?_set_ne (by omega)]; exact hG
  simp [h1, h2, h5, h6, h8, h9, hG, hk3, hkt, nthL_at hk1, hj, nthL_at qi, nthL_at qe, hje, hcc, hq, g3, htk3, ↓sc1, ↓sz, LN]
  obtain ⟨os', hos'⟩ : ∃ os', cur ++ os.drop (e + 1) = os' := ⟨_, rfl⟩
  have hol : cur.length + (os.length - (e + 1)) = os'.length := by rw [← hos']; simp
  have hre : os.take j ++ ((List.replicate im.toNat body).flatten ++ os.drop (e + 1)) = os' := by rw [← hos', hcur, List.append_assoc]
  rw [hre] at he4 he5
  rw [hol, ← osC_app, hos']
  obtain ⟨GF, hGF⟩ : ∃ GF, GF = (G'.set G.length (.dyn (osC os') os'.length 7 (kv + 1) (st + 1))).set (G.length + 1) (.cells [.lst (vsC vs) vs.length 3, .dy G.length (kv + 1), .lst (osC rs) rs.length 7] (sc + 1)) := ⟨_, rfl⟩
  rw [← hGF]
  have fz : GF[z]? = some (.cells (kerC vs os rs) 0) := by rw [hGF]; exact sz _ _
  have fq : GF[G.length]? = some (.dyn (osC os') os'.length 7 (kv + 1) (st + 1)) := by rw [hGF, List.getElem?_set_ne (by omega), List.getElem?_set_self lq]
  have fc : GF[G.length + 1]? = some (.cells [.lst (vsC vs) vs.length 3, .dy G.length (kv + 1), .lst (osC rs) rs.length 7] (sc + 1)) := by rw [hGF]; exact List.getElem?_set_self (by simp; omega)
  clear hGF
  refine ⟨by omega, by omega, by omega, by omega, by omega, CallL_V (Run_ok vs os rs ins hl1 hi) hdd ?_⟩
  have hR := runs_len (vs := vs) (os := os) (rs := rs) (ns := ins.map val) (by omega)
  simp [h1, h8, fc, LN]
  refine run_mid (vs := vs) (os := os') (rs := rs) hl1 hi fq fc fun G5 l5 f5 c5 => ?_
  rw [he4]
  have z5 : G5[z]? = some (.cells (kerC vs os rs) 0) := by rw [f5 z (by omega) (by omega)]; exact fz
  have hk3' : (kerC vs os' rs).length = 3 := rfl
  have hkt' : (kerC vs os' rs).take 3 = kerC vs os' rs := rfl
  have hkd' : dats (kerC vs os' rs) = true := by simp [kerC, dats, LV.dat, vsC_dats, osC_dats]
  simp [h2, h8, LN]
  refine same_runs hR hR ?_
  simp [h2, h8, z5, c5, hk3, hkt, hk3', hkt']
  refine CallL_F (Steps_ok vs os rs hl1) (bors_self _ (by simp [dats, LV.dat, hkd])) ?_
  simp [h2, h8, z5, c5, hk3, hkt, hk3', hkt']
  refine CallL_F (Steps_ok vs os' rs hl1) (bors_self _ (by simp [dats, LV.dat, hkd'])) ?_
  have hst : ((stepsN20 vs os' rs : Nat) : Int) < ((stepsN20 vs os rs : Nat) : Int) := by omega
  simp [hst]
  trace_state
end Go.Proofs.YtnbnhnjffiagmaaGreat
