/- What is handed over, calls, walked. -/
import Derived.Test.YtcbbilifblbblaaFnTd
namespace Go.Proofs.Ytcbbilifblbblaa
open Go.Sv
set_option linter.unusedSimpArgs false
set_option linter.unusedVariables false
set_option maxRecDepth 10000
def c_types_handed : LC := (.seq (.ops [.z 3 (.box (.t 0)),.z 4 (.box (.t 1)),.z 6 (.move (.c (.i 0)))]) (.seq (.block 0 (.seq (.ops [.f 9 0 3,.l 10 9,.z 11 (.bin .eql true 3 (.t 10) (.c (.i 1))),.m 12 11,⟨some 13,(some (12,true)),.fieldAddr 1 (.t 4)⟩,⟨some 14,(some (12,true)),.load1 (.t 13)⟩,.z 15 (.pick (.t 12) (.t 14) (.c (.bool false))),.m 8 15]) (.cond (.t 8) (.seq (.ops [.z 6 (.move (.c (.i 12)))]) .ret) (.seq (.ops [.f 17 0 3,.l 18 17,.z 19 (.bin .neq true 3 (.t 18) (.c (.i 3))),.m 16 19]) (.cond (.t 16) (.seq (.ops [.z 6 (.move (.c (.i 0)))]) .ret) (.seq (.ops [.z 21 (.loadN 3 (.t 4)),.z 22 (.callV (.c (.fn (.func 66) [] [])) [.t 21]),.m 20 22]) (.cond (.t 20) (.seq (.ops [.z 6 (.move (.c (.i 2)))]) .ret) (.seq (.ops [.f 24 1 4,.l 25 24,.z 26 (.un .not (.t 25)),.m 23 26]) (.cond (.t 23) (.seq (.ops [.z 6 (.move (.c (.i 12)))]) .ret) .skip))))))))) (.seq (.ops [.m 27 2,.f 28 0 4,.l 29 28,.z 30 (.callV (.c (.fn (.func 44) [] [])) [.t 27,.t 29]),.m 7 30]) (.seq (.seq (.draw [(.m 31 2,[]),(.m 32 7,[]),(.z 33 (.bin .add true 3 (.t 32) (.c (.i 1))),[]),(.z 34 (.slSl 1 (.t 31) (some (.t 33)) none),[]),(.f 35 0 4,[]),(.l 36 35,[]),(.z 37 (.callV (.c (.fn (.func 30) [] [])) [.t 34,.t 36]),[])]) (.cond (.t 37) (.seq (.ops [.z 6 (.move (.c (.i 6)))]) .ret) .skip)) (.seq (.ops [.z 6 (.move (.c (.i 0)))]) .ret)))))
theorem r_types_handed : resFn Try.prog 70 = some ⟨38, c_types_handed.r, [.tmp 6]⟩ := by kernel_rfl
theorem k_types_handed : c_types_handed.ok = true := by kernel_rfl
def c_types_looker_call : LC := (.seq (.ops [.z 3 (.box (.t 0)),.z 5 (.box (.t 2)),.z 6 (.move (.c (.i 0)))]) (.seq (.ops [.l 12 3,.z 13 (.nilChk (.t 12)),.f 14 6 13,.l 15 14,.z 16 (.mkFunc 67 [] [.t 5]),.z 17 (.callV (.c (.fn (.func 29) [] [])) [.t 15,.t 16]),.m 7 17]) (.seq (.seq (.ops [.m 18 7,.z 19 (.bin .lss true 3 (.t 18) (.c (.i 0)))]) (.cond (.t 19) (.seq (.ops [.z 6 (.move (.c (.i 5)))]) .ret) .skip)) (.seq (.ops [.l 20 3,.z 21 (.nilChk (.t 20)),.f 22 6 21,.l 23 22,.m 24 7,.z 25 (.ixAddr 6 (.t 23) (.t 24)),.z 26 (.loadN 6 (.t 25)),.z 8 (.alloc [(.str []),.nilSl,.nilSl,.nilSl,.nilSl,.nilSl]),⟨none,none,.store 6 (.t 8) (.t 26)⟩]) (.seq (.seq (.ops [.f 27 0 5,.f 28 7 27,.l 29 28,.z 30 (.lenSl (.t 29)),.f 31 1 8,.l 32 31,.z 33 (.lenSl (.t 32)),.z 34 (.bin .neq false 3 (.t 30) (.t 33)),.m 35 34,⟨some 36,(some (35,false)),.fieldAddr 0 (.t 5)⟩,⟨some 37,(some (35,false)),.fieldAddr 6 (.t 36)⟩,⟨some 38,(some (35,false)),.load1 (.t 37)⟩,⟨some 39,(some (35,false)),.lenSl (.t 38)⟩,⟨some 40,(some (35,false)),.fieldAddr 2 (.t 8)⟩,⟨some 41,(some (35,false)),.load1 (.t 40)⟩,⟨some 42,(some (35,false)),.lenSl (.t 41)⟩,⟨some 43,(some (35,false)),.bin .neq false 3 (.t 39) (.t 42)⟩,.z 44 (.pick (.t 35) (.c (.bool true)) (.t 43))]) (.cond (.t 44) (.seq (.ops [.z 6 (.move (.c (.i 2)))]) .ret) .skip)) (.seq (.seq (.ops [.f 45 0 5,.f 46 7 45,.l 47 46,.z 48 (.mkFunc 69 [] [.t 3]),.z 49 (.callV (.c (.fn (.func 68) [] [])) [.t 47,.t 48]),.m 50 49,⟨some 51,(some (50,false)),.fieldAddr 0 (.t 5)⟩,⟨some 52,(some (50,false)),.fieldAddr 6 (.t 51)⟩,⟨some 53,(some (50,false)),.load1 (.t 52)⟩,⟨some 54,(some (50,false)),.move (.t 1)⟩,⟨some 55,(some (50,false)),.mkFunc 35 [.t 54] []⟩,⟨some 56,(some (50,false)),.callV (.c (.fn (.func 34) [] [])) [.t 53,.t 55]⟩,.z 57 (.pick (.t 50) (.c (.bool true)) (.t 56))]) (.cond (.t 57) (.seq (.ops [.z 6 (.move (.c (.i 5)))]) .ret) .skip)) (.seq (.seq (.ops [.f 58 2 8,.l 59 58,.z 60 (.lenSl (.t 59)),.z 61 (.move (.c (.i 0)))]) (.block 0 (.loop (.seq (.ops [.z 62 (.bin .lss false 3 (.t 61) (.t 60))]) (.seq (.cond (.t 62) .skip (.exit 0)) (.seq (.block 1 (.seq (.ops [.m 63 61,.z 64 (.ixAddr 4 (.t 59) (.t 61)),.z 65 (.loadN 4 (.t 64)),.z 10 (.alloc [(.i 0),(.str []),(.i 0),.nilSl]),.m 9 63,⟨none,none,.store 4 (.t 10) (.t 65)⟩]) (.seq (.draw [(.z 66 (.loadN 4 (.t 10)),[]),(.m 67 1,[]),(.f 68 0 5,[]),(.f 69 6 68,[]),(.l 70 69,[]),(.m 71 9,[]),(.z 72 (.ixAddr 1 (.t 70) (.t 71)),[]),(.l 73 72,[]),(.z 74 (.lookup .string (.agg [(.str []),(.bool false),(.i 0)]) false (.t 67) (.t 73)),[]),(.f 75 0 5,[]),(.f 76 6 75,[]),(.l 77 76,[]),(.z 78 (.callV (.c (.fn (.func 70) [] [])) [.t 66,.t 74,.t 77]),[]),(.m 11 78,[])]) (.seq (.ops [.m 79 11,.z 80 (.bin .neq true 24 (.t 79) (.c (.i 0)))]) (.cond (.t 80) (.seq (.ops [.m 81 11,.m 6 81]) .ret) .skip))))) (.ops [.z 82 (.bin .add true 3 (.t 61) (.c (.i 1))),.m 61 82]))))))) (.seq (.ops [.z 6 (.move (.c (.i 0)))]) .ret))))))))
theorem r_types_looker_call : resFn Try.prog 53 = some ⟨83, c_types_looker_call.r, [.tmp 6]⟩ := by kernel_rfl
theorem k_types_looker_call : c_types_looker_call.ok = true := by kernel_rfl
def c_types_looker_call_1 : LC := (.seq (.ops [.z 2 (.box (.t 0)),.z 3 (.move (.c (.bool false)))]) (.seq (.ops [.f 4 0 2,.l 5 4,.f 6 0 1,.f 7 1 6,.l 8 7,.z 9 (.bin .eql false 9 (.t 5) (.t 8)),.m 3 9]) .ret))
theorem r_types_looker_call_1 : resFn Try.prog 67 = some ⟨10, c_types_looker_call_1.r, [.tmp 3]⟩ := by kernel_rfl
theorem k_types_looker_call_1 : c_types_looker_call_1.ok = true := by kernel_rfl
def c_types_looker_call_2 : LC := (.seq (.ops [.z 2 (.box (.t 0)),.z 3 (.move (.c (.bool false)))]) (.seq (.draw [(.z 4 (.loadN 2 (.t 2)),[]),(.l 5 1,[]),(.z 6 (.nilChk (.t 5)),[]),(.f 7 0 6,[]),(.f 8 1 7,[]),(.l 9 8,[]),(.z 10 (.callV (.c (.fn (.func 33) [] [])) [.t 4,.t 9]),[]),(.m 3 10,[])]) .ret))
theorem r_types_looker_call_2 : resFn Try.prog 69 = some ⟨11, c_types_looker_call_2.r, [.tmp 3]⟩ := by kernel_rfl
theorem k_types_looker_call_2 : c_types_looker_call_2.ok = true := by kernel_rfl
theorem types_handed_ok (p : ParT) (v : TypT) (ns : List Str) (hn : ns.length ≤ 9223372036854775807) : FnS Try.prog 70 [.agg p.f, .agg v.f, .lst (strC ns) ns.length 1] (.i (handedE p v ns)) [] := by
 have hp : p.f = [.i p.mode, .str p.name, .i p.len.c, .lst (tmC p.len.ts) p.len.ts.length 2] := rfl
 have hv : v.f = [.str v.name, .bool v.sec, .i v.mode] := rfl
 have gv : ∀ v : TypT, FnS Try.prog 66 [.agg [.str v.name, .bool v.sec, .i v.mode]] (.bool (givenT v)) [] := fun v => types_given_ok v
 have bs : ∀ (v : TypT) {G : LHeap}, bors G [.agg [.str v.name, .bool v.sec, .i v.mode]] [.agg [.str v.name, .bool v.sec, .i v.mode]] := fun v => bors_self _ (by simp [dats, LV.dat])
 refine FnS.val rfl (call_body r_types_handed k_types_handed (by simp) ?_)
 by_cases h1 : p.mode = 1
 ·cases hs : v.sec with
  | true => simp [c_types_handed, hp, hv, h1, hs, handedE]
  | false => simp [c_types_handed, hp, hv, h1, hs, handedE]
 by_cases h3 : p.mode = 3
 case neg => simp [c_types_handed, hp, hv, h1, h3, handedE]
 simp [c_types_handed, hp, hv, h1, h3]
 refine CallL_F (gv v) (bs v) ?_
 cases hg : givenT v with
 | true => simp [handedE, h3, hg]
 | false =>
 cases hs : v.sec with
 | false => simp [handedE, h3, hg, hs]
 | true =>
 simp
 refine CallL_F (IndexS_ok ns v.name (by omega)) (bors_self _ (by simp [dats, LV.dat, strC_dats])) ?_
 have hix := ixZ_in (fun n => decide (v.name = n)) ns
 obtain ⟨m, hm⟩ : ∃ m : Nat, ixZ (fun n => decide (v.name = n)) ns + 1 = m := ⟨(ixZ (fun n => decide (v.name = n)) ns + 1).toNat, by omega⟩
 have hml : m ≤ ns.length := by omega
 have hm' : (ixZ (fun n => decide (v.name = n)) ns + 1).toNat = m := by omega
 have hmi : ixZ (fun n => decide (v.name = n)) ns = (m : Int) - 1 := by omega
 have hE : handedE p v ns = if hasS (ns.drop m) v.name = true then 6 else 0 := by
  simp [handedE, h1, h3, hg, hs, hm']
 rw [hE, hmi]
 have hdr : (strC ns).drop m = strC (ns.drop m) := by simp [strC]
 have hdl : (ns.drop m).length = ns.length - m := by simp
 have htd : List.take (ns.length - m) (List.drop m (strC ns)) = strC (ns.drop m) := by
  rw [hdr, List.take_of_length_le (by simp [strC])]
 simp [hml]
 rw [htd, ← hdl]
 refine ⟨by omega, CallL_F (ContainsS_ok (ns.drop m) v.name (by omega)) (bors_self _ (by simp [dats, LV.dat, strC_dats])) ?_⟩
 cases hh : hasS (ns.drop m) v.name with
 | true => simp
 | false => simp
section heap
variable {G0 G : LHeap} {K : LV → LHeap → Prop}
theorem call_1_any {c st : Nat} {k1 : LV} {n : Str} {r : List LV} (hc : G0[c]? = some (.cells (k1 :: .str n :: r) st)) (v : PrcT) : Prd Try.prog 67 [] [.ptr c 0] (.agg v.f) G0 (decide (v.name = n)) := by
 intro G1 hE K k
 refine call_body r_types_looker_call_1 k_types_looker_call_1 (by simp) ?_
 have hc1 := hE.at_ hc
 have hl := (List.getElem?_eq_some_iff.1 hc1).1
 simp [c_types_looker_call_1, PrcT.f, ↓oldP hl, hc1]
 exact k _ (Ext.app _ _)
theorem call_2_any {b c st : Nat} {p : PrcT} {ah : List PrcT} {all : List TypT} (hL : Lkr G0 c p ah all) (hb : G0[b]? = some (.cells [.ptr c 0] st)) (hpl : p.lens.length ≤ 9223372036854775807) (l : LenT) (hl : l.ts.length ≤ 9223372036854775807) : Prd Try.prog 69 [] [.ptr b 0] (.agg l.f) G0 (foreignE l.ts p.lens) := by
 intro G1 hE K k
 refine call_body r_types_looker_call_2 k_types_looker_call_2 (by simp) ?_
 have hb1 := hE.at_ hb
 obtain ⟨st2, v2, c1, r1⟩ := hL.ext hE
 have lb := (List.getElem?_eq_some_iff.1 hb1).1
 have lc := (List.getElem?_eq_some_iff.1 c1).1
 simp [c_types_looker_call_2, LenT.f, ↓oldP lb, ↓oldP lc, hb1, c1]
 refine foreign_any (l := l) hl hpl fun G' hE2 => ?_
 simp
 exact k _ ((Ext.app _ _).trans hE2)
theorem handsE_cut {s : Sc} {ns : List Str} {ps : List ParT} {i : Nat} {p : ParT} (h : ps[i]? = some p) : handsE s ns (ps.drop i) i = if handedE p (s.at_ (gn ns i)) ns ≠ 0 then handedE p (s.at_ (gn ns i)) ns else handsE s ns (ps.drop (i + 1)) (i + 1) := by
 have hi := (List.getElem?_eq_some_iff.1 h).1
 rw [List.drop_eq_getElem_cons hi]
 have : ps[i] = p := by have := List.getElem?_eq_getElem hi; rw [h] at this; exact (Option.some.inj this).symm
 rw [this, handsE]
theorem call_any {c s ck sst : Nat} {p : PrcT} {ah : List PrcT} {all : List TypT} {es : Ens} (hL : Lkr G c p ah all) (hs : G[s]? = some (.map (scM es) ck sst)) (hpl : p.lens.length ≤ 9223372036854775807) (hah : ah.length ≤ 9223372036854775807) (hap : ∀ f ∈ ah, f.params.length ≤ 9223372036854775807) {n : Str} {w0 w2 w3 w4 w5 w8 : LV} {ns : List Str} {ls : List LenT} (hn : ns.length ≤ 9223372036854775807) (hls : ls.length ≤ 9223372036854775807) (hlt : ∀ l ∈ ls, l.ts.length ≤ 9223372036854775807)
  (k : ∀ G', Ext G G' → K (.i (calE ah p.lens n ns ls (scF es))) G') :
  CallL Try.prog (.fn 53) [.ptr c 0, .map s, .agg [w0, .str n, w2, w3, w4, w5, .lst (strC ns) ns.length 1, .lst (lenC ls) ls.length 2, w8]] G K := by
 refine call_body r_types_looker_call k_types_looker_call (by simp) ?_
 obtain ⟨st0, v0, c0, r0⟩ := hL
 have lc0 := (List.getElem?_eq_some_iff.1 c0).1
 simp [c_types_looker_call, ↓oldP lc0, c0]
 obtain ⟨G1, hG1⟩ : ∃ G1, G1 = G ++ [LObj.cells [.ptr c 0] 0, .cells [w0, .str n, w2, w3, w4, w5, .lst (strC ns) ns.length 1, .lst (lenC ls) ls.length 2, w8] 0] := ⟨_, rfl⟩
 have e1 : Ext G G1 := by rw [hG1]; exact Ext.app _ _
 have b1 : G1[G.length]? = some (.cells [.ptr c 0] 0) := by rw [hG1]; simp
 have x1 : G1[G.length + 1]? = some (.cells [w0, .str n, w2, w3, w4, w5, .lst (strC ns) ns.length 1, .lst (lenC ls) ls.length 2, w8] 0) := by rw [hG1]; simp
 have hL : Lkr G c p ah all := ⟨st0, v0, c0, r0⟩
 rw [← hG1]
 refine IxPrc_any (q' := fun q => decide (q.name = n)) (G0 := G1) ah hah (Ext.refl _) (fun a _ => call_1_any (c := G.length + 1) x1 a) fun G2 hE2 => ?_
 have e2 := e1.trans hE2
 have b2 := hE2.at_ b1
 have x2 := hE2.at_ x1
 obtain ⟨st2, v2, c2, r2⟩ := hL.ext e2
 have hix := ixZ_in (fun q : PrcT => decide (q.name = n)) ah
 by_cases hneg : ixZ (fun q : PrcT => decide (q.name = n)) ah < 0
 ·simp [hneg]
  have := k G2 e2
  simpa [calE, hneg] using this
 obtain ⟨m, hm⟩ : ∃ m : Nat, ixZ (fun q : PrcT => decide (q.name = n)) ah = m := ⟨(ixZ (fun q : PrcT => decide (q.name = n)) ah).toNat, by omega⟩
 have hml : m < ah.length := by omega
 have hcal : calE ah p.lens n ns ls (scF es) = calF p.lens ns ls (scF es) (gp ah m) := by
  unfold calE
  rw [hm]
  have : ¬ (m : Int) < 0 := by omega
  simp [this]
 rw [hcal] at k
 rw [hm]
 have hfm : gp ah m ∈ ah := by
  have : ah[m]? = some (gp ah m) := by simp [gp, List.getD_eq_getElem?_getD, hml]
  exact List.mem_iff_getElem?.2 ⟨m, this⟩
 have hf6 : ((prcC ah).drop (m * 6)).take 6 = (gp ah m).f := fm_take PrcT.f_len (by simp [gp, List.getD_eq_getElem?_getD, hml])
 have hq6 : m * 6 + 6 ≤ (prcC ah).length := fm_lt PrcT.f_len hml
 have hfp := hap _ hfm
 generalize gp ah m = f at *
 have hff : f.f = [.str f.name, .lst (strC f.lens) f.lens.length 1, .lst (parC f.params) f.params.length 4, .lst (claC f.req) f.req.length 3, .lst (claC f.ens) f.ens.length 3, .lst (stC f.body) f.body.length 9] := rfl
 have lx2 := (List.getElem?_eq_some_iff.1 x2).1
 have lb2 := (List.getElem?_eq_some_iff.1 b2).1
 have nm0 : ¬ (m : Int) < 0 := by omega
 obtain ⟨G3, hG3⟩ : ∃ G3, G3 = G2 ++ [LObj.cells [.str f.name, .lst (strC f.lens) f.lens.length 1, .lst (parC f.params) f.params.length 4, .lst (claC f.req) f.req.length 3, .lst (claC f.ens) f.ens.length 3, .lst (stC f.body) f.body.length 9] 1] := ⟨_, rfl⟩
 have e23 : Ext G2 G3 := by rw [hG3]; exact Ext.app _ _
 have e3 := e2.trans e23
 have f3 : G3[G2.length]? = some (.cells [.str f.name, .lst (strC f.lens) f.lens.length 1, .lst (parC f.params) f.params.length 4, .lst (claC f.req) f.req.length 3, .lst (claC f.ens) f.ens.length 3, .lst (stC f.body) f.body.length 9] 1) := by rw [hG3]; simp
 have x3 := e23.at_ x2
 have b3 := e23.at_ b2
 by_cases q1 : ls.length = f.lens.length
 case neg =>
  have q1' : ¬ (ls.length : Int) = f.lens.length := by omega
  simp [nm0, b2, c2, x2, hml, hf6, hq6, hff, ↓oldP lx2, q1']
  rw [← hG3]
  have := k G3 e3
  simpa [calF, q1] using this
 have q1' : (ls.length : Int) = f.lens.length := by omega
 by_cases q2 : ns.length = f.params.length
 case neg =>
  have q2' : ¬ (ns.length : Int) = f.params.length := by omega
  simp [nm0, b2, c2, x2, hml, hf6, hq6, hff, ↓oldP lx2, q1', q2']
  rw [← hG3]
  have := k G3 e3
  simpa [calF, q1, q2] using this
 have q2' : (ns.length : Int) = f.params.length := by omega
 simp [nm0, b2, c2, x2, hml, hf6, hq6, hff, ↓oldP lx2, q1', q2']
 rw [← hG3]
 have key1 := fun K2 => HasLen_any (K := K2) (fs := []) (cap := [.ptr G.length 0]) (g := 69) (q' := fun l => foreignE l.ts p.lens) (G0 := G3) (G := G3) ls hls (Ext.refl _) (fun l hl => call_2_any (hL.ext e3) b3 hpl l (hlt l hl))
 refine key1 _ fun G4 hE4 => ?_
 have e4 := e3.trans hE4
 have x4 := hE4.at_ x3
 have f4 := hE4.at_ f3
 cases hq1 : ls.any (fun l => foreignE l.ts p.lens) with
 | true =>
  simp
  have := k G4 e4
  simpa [calF, q1, q2, hq1] using this
 | false =>
 have lx4 := (List.getElem?_eq_some_iff.1 x4).1
 simp [x4]
 have key2 := fun K2 => HasStr_any (K := K2) (fs := [.map s]) (cap := []) (g := 35) (q' := fun n => (scF es).lacks n) (G0 := G4) (G := G4) ns hn (Ext.refl _) (fun a _ => lacks_prd (e4.at_ hs) a)
 refine key2 _ fun G5 hE5 => ?_
 have e5 := e4.trans hE5
 have x5 := hE5.at_ x4
 have f5 := hE5.at_ f4
 cases hq2 : ns.any (fun n => (scF es).lacks n) with
 | true =>
  simp
  have := k G5 e5
  simpa [calF, q1, q2, hq1, hq2] using this
 | false =>
 have hcal2 : calF p.lens ns ls (scF es) f = handsE (scF es) ns f.params 0 := by
  simp [calF, q1, q2, hq1, hq2]
 rw [hcal2] at k
 simp [f5]
 refine loop_nx (fun ρ D G' N => ∃ (i : Nat), D = [] ∧ N + i = f.params.length ∧ lk ρ 1 = .map s ∧ lk ρ 5 = .ptr (G.length + 1) 0 ∧ lk ρ 59 = .lst (parC f.params) f.params.length 4 ∧ lk ρ 60 = .i f.params.length ∧ lk ρ 61 = .i i ∧ Ext G5 G' ∧ handsE (scF es) ns (f.params.drop i) i = handsE (scF es) ns f.params 0) (N := f.params.length)
  ⟨0, rfl, by omega, by simp, by simp, by simp, by simp, by simp, Ext.refl _, by simp⟩ ?_
 rintro N ρ D G6 ⟨i, rfl, hN, h1, h5, h59, h60, h61, hE6, hgo⟩ Nx hNx
 have e6 := e5.trans hE6
 have x6 := hE6.at_ x5
 have s6 := e6.at_ hs
 by_cases gi : i < f.params.length
 case neg =>
  rw [List.drop_of_length_le (by omega)] at hgo
  simp [h60, h61, gi]
  have := k G6 e6
  rw [← hgo] at this
  simpa [handsE] using this
 obtain ⟨pa, hpa⟩ : ∃ pa, f.params[i]? = some pa := ⟨_, List.getElem?_eq_getElem gi⟩
 rw [handsE_cut hpa] at hgo
 have p4 : ((parC f.params).drop (i * 4)).take 4 = pa.f := fm_take ParT.f_len hpa
 have hq4 : i * 4 + 4 ≤ (parC f.params).length := fm_lt ParT.f_len gi
 have hpf : pa.f = [.i pa.mode, .str pa.name, .i pa.len.c, .lst (tmC pa.len.ts) pa.len.ts.length 2] := rfl
 have gni := at_gn (ns := ns) (i := i) (by omega)
 have gns : i < (strC ns).length := by simp [strC]; omega
 have gns' : i < ns.length := by omega
 have lx6 := (List.getElem?_eq_some_iff.1 x6).1
 have ls6 := (List.getElem?_eq_some_iff.1 s6).1
 simp [h1, h5, h59, h60, h61, gi, p4, hq4, hpf, ↓oldP lx6, ↓oldP ls6, x6, s6, gns', nthL_at gni, gns, find_sc, lookK_at]
 have hnd : FnS Try.prog 70 [.agg [.i pa.mode, .str pa.name, .i pa.len.c, .lst (tmC pa.len.ts) pa.len.ts.length 2], .agg [.str ((scF es).at_ (gn ns i)).name, .bool ((scF es).at_ (gn ns i)).sec, .i ((scF es).at_ (gn ns i)).mode], .lst (strC ns) ns.length 1] (.i (handedE pa ((scF es).at_ (gn ns i)) ns)) [] := types_handed_ok pa _ ns hn
 refine CallL_F hnd (bors_self _ (by simp [dats, LV.dat, strC_dats, tmC_dats])) ?_
 have e7 := e6.trans (Ext.app G6 [LObj.cells [.i pa.mode, .str pa.name, .i pa.len.c, .lst (tmC pa.len.ts) pa.len.ts.length 2] 1])
 by_cases hz : handedE pa ((scF es).at_ (gn ns i)) ns = 0
 ·rw [if_neg (fun h => h hz)] at hgo
  simp [hz, h61]
  exact ⟨by omega, hNx _ _ _ ⟨N - 1, by omega, i + 1, rfl, by omega, by simp [h1], by simp [h5], by simp [h59], by simp [h60], by simp, hE6.trans (Ext.app _ _), hgo⟩⟩
 ·rw [if_pos hz] at hgo
  simp [hz]
  have := k _ e7
  rw [← hgo] at this
  exact this
end heap
end Go.Proofs.Ytcbbilifblbblaa
