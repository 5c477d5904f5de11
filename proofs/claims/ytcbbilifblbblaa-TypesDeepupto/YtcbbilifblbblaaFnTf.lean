/- Statements, walked: recursion over trees. -/
import Derived.Test.YtcbbilifblbblaaFnTe
namespace Go.Proofs.Ytcbbilifblbblaa
open Go.Sv
set_option linter.unusedSimpArgs false
set_option linter.unusedVariables false
set_option maxRecDepth 10000
def c_maps_Clone_types_scope_string_api_Typed : LC := (.seq (.ops [.z 2 (.move (.c .nilMap))]) (.seq (.seq (.ops [.m 3 0,.z 4 (.bin .eql true 71 (.t 3) (.c .nilMap))]) (.cond (.t 4) (.seq (.ops [.z 2 (.move (.c .nilMap))]) .ret) .skip)) (.seq (.ops [.m 5 0,.z 6 (.mkIface 71 (.t 5)),.z 7 (.clone 49 (.t 6)),.z 8 (.assert .nilMap false 71 (.t 7)),.m 2 8]) .ret)))
theorem r_maps_Clone_types_scope_string_api_Typed : resFn Try.prog 37 = some ⟨9, c_maps_Clone_types_scope_string_api_Typed.r, [.tmp 2]⟩ := by kernel_rfl
theorem k_maps_Clone_types_scope_string_api_Typed : c_maps_Clone_types_scope_string_api_Typed.ok = true := by kernel_rfl
def c_types_typed : LC := (.seq (.ops [.z 1 (.box (.t 0)),.z 2 (.move (.c .nilIf))]) (.seq (.seq (.ops [.f 3 0 1,.l 4 3]) (.block 0 (.seq (.ops [.z 6 (.bin .eql true 3 (.t 4) (.c (.i 1))),.m 5 6]) (.cond (.t 5) (.seq (.ops [.z 7 (.loadN 9 (.t 1)),.z 8 (.build [(.i 0),(.str []),(.i 0),.nilSl,(.str []),.nilSl,.nilSl,.nilSl,.nilSl] [(0,9,.t 7)]),.z 9 (.mkIface 98 (.t 8)),.m 2 9]) .ret) (.seq (.ops [.z 11 (.bin .eql true 3 (.t 4) (.c (.i 2))),.m 10 11]) (.cond (.t 10) (.seq (.ops [.z 12 (.loadN 9 (.t 1)),.z 13 (.build [(.i 0),(.str []),(.i 0),.nilSl,(.str []),.nilSl,.nilSl,.nilSl,.nilSl] [(0,9,.t 12)]),.z 14 (.mkIface 99 (.t 13)),.m 2 14]) .ret) (.seq (.ops [.z 16 (.bin .eql true 3 (.t 4) (.c (.i 3))),.m 15 16]) (.cond (.t 15) (.seq (.ops [.z 17 (.loadN 9 (.t 1)),.z 18 (.build [(.i 0),(.str []),(.i 0),.nilSl,(.str []),.nilSl,.nilSl,.nilSl,.nilSl] [(0,9,.t 17)]),.z 19 (.mkIface 80 (.t 18)),.m 2 19]) .ret) (.seq (.ops [.z 21 (.bin .eql true 3 (.t 4) (.c (.i 4))),.m 20 21]) (.cond (.t 20) (.seq (.ops [.z 22 (.loadN 9 (.t 1)),.z 23 (.build [(.i 0),(.str []),(.i 0),.nilSl,(.str []),.nilSl,.nilSl,.nilSl,.nilSl] [(0,9,.t 22)]),.z 24 (.mkIface 100 (.t 23)),.m 2 24]) .ret) (.seq (.ops [.z 26 (.bin .eql true 3 (.t 4) (.c (.i 5))),.m 25 26]) (.cond (.t 25) (.seq (.ops [.z 27 (.loadN 9 (.t 1)),.z 28 (.build [(.i 0),(.str []),(.i 0),.nilSl,(.str []),.nilSl,.nilSl,.nilSl,.nilSl] [(0,9,.t 27)]),.z 29 (.mkIface 81 (.t 28)),.m 2 29]) .ret) .skip)))))))))))) (.seq (.ops [.z 2 (.move (.c .nilIf))]) .ret)))
theorem r_types_typed : resFn Try.prog 27 = some ⟨30, c_types_typed.r, [.tmp 2]⟩ := by kernel_rfl
theorem k_types_typed : c_types_typed.ok = true := by kernel_rfl
def c_types_looker_stmt : LC := (.seq (.ops [.z 6 (.move (.c (.i 0)))]) (.seq (.seq (.ops [.m 14 2,.z 15 (.assert (.agg [(.i 0),(.str []),(.i 0),.nilSl,(.str []),.nilSl,.nilSl,.nilSl,.nilSl]) true 98 (.t 14)),.m 13 15,.z 16 (.extract 0 (.t 13)),.z 17 (.extract 1 (.t 13)),.z 7 (.alloc [(.i 0),(.str []),(.i 0),.nilSl,(.str []),.nilSl,.nilSl,.nilSl,.nilSl]),⟨none,none,.store 9 (.t 7) (.t 16)⟩,.m 8 17]) (.seq (.ops [.m 18 8]) (.cond (.t 18) (.seq (.ops [.m 19 0,.m 20 1,.z 21 (.loadN 9 (.t 7)),.z 22 (.callV (.c (.fn (.func 50) [] [])) [.t 19,.t 20,.t 21]),.m 6 22]) .ret) .skip))) (.seq (.seq (.ops [.m 23 2]) (.block 0 (.seq (.ops [.z 24 (.assert (.agg [(.i 0),(.str []),(.i 0),.nilSl,(.str []),.nilSl,.nilSl,.nilSl,.nilSl]) true 99 (.t 23)),.z 25 (.extract 1 (.t 24)),.z 26 (.extract 0 (.t 24))]) (.cond (.t 25) (.seq (.ops [.z 9 (.alloc [(.i 0),(.str []),(.i 0),.nilSl,(.str []),.nilSl,.nilSl,.nilSl,.nilSl]),⟨none,none,.store 9 (.t 9) (.t 26)⟩]) (.seq (.ops [.m 27 1,.z 28 (.loadN 9 (.t 9)),.z 29 (.callV (.c (.fn (.func 51) [] [])) [.t 27,.t 28]),.m 6 29]) .ret)) (.seq (.ops [.z 30 (.assert (.agg [(.i 0),(.str []),(.i 0),.nilSl,(.str []),.nilSl,.nilSl,.nilSl,.nilSl]) true 80 (.t 23)),.z 31 (.extract 1 (.t 30)),.z 32 (.extract 0 (.t 30))]) (.cond (.t 31) (.seq (.ops [.z 10 (.alloc [(.i 0),(.str []),(.i 0),.nilSl,(.str []),.nilSl,.nilSl,.nilSl,.nilSl]),⟨none,none,.store 9 (.t 10) (.t 32)⟩]) (.seq (.seq (.draw [(.f 33 0 10,[]),(.f 34 2 33,[]),(.z 35 (.loadN 2 (.t 34)),[]),(.m 36 0,[]),(.z 37 (.nilChk (.t 36)),[]),(.f 38 0 37,[]),(.f 39 1 38,[]),(.l 40 39,[]),(.z 41 (.callV (.c (.fn (.func 33) [] [])) [.t 35,.t 40]),[])]) (.cond (.t 41) (.seq (.ops [.z 6 (.move (.c (.i 5)))]) .ret) .skip)) (.seq (.ops [.m 42 0,.m 43 1,.f 44 0 10,.f 45 8 44,.l 46 45,.z 47 (.callV (.c (.fn (.func 24) [] [])) [.t 42,.t 43,.t 46]),.m 6 47]) .ret))) (.seq (.ops [.z 48 (.assert (.agg [(.i 0),(.str []),(.i 0),.nilSl,(.str []),.nilSl,.nilSl,.nilSl,.nilSl]) true 100 (.t 23)),.z 49 (.extract 1 (.t 48)),.z 50 (.extract 0 (.t 48))]) (.cond (.t 49) (.seq (.ops [.z 11 (.alloc [(.i 0),(.str []),(.i 0),.nilSl,(.str []),.nilSl,.nilSl,.nilSl,.nilSl]),⟨none,none,.store 9 (.t 11) (.t 50)⟩]) (.seq (.ops [.m 51 1,.z 52 (.loadN 9 (.t 11)),.z 53 (.callV (.c (.fn (.func 52) [] [])) [.t 51,.t 52]),.m 6 53]) .ret)) (.seq (.ops [.z 54 (.bin .eql true 77 (.t 23) (.c .nilIf))]) (.cond (.t 54) (.seq (.ops [.m 12 23]) (.seq (.ops [.z 6 (.move (.c (.i 2)))]) .ret)) .skip)))))))))) (.seq (.ops [.m 55 0,.m 56 1,.m 57 2,.z 58 (.assert (.agg [(.i 0),(.str []),(.i 0),.nilSl,(.str []),.nilSl,.nilSl,.nilSl,.nilSl]) false 81 (.t 57)),.z 59 (.callV (.c (.fn (.func 53) [] [])) [.t 55,.t 56,.t 58]),.m 6 59]) .ret))))
theorem r_types_looker_stmt : resFn Try.prog 38 = some ⟨60, c_types_looker_stmt.r, [.tmp 6]⟩ := by kernel_rfl
theorem k_types_looker_stmt : c_types_looker_stmt.ok = true := by kernel_rfl
def c_types_looker_body : LC := (.seq (.ops [.z 6 (.move (.c (.i 0)))]) (.seq (.ops [.m 11 1,.z 12 (.callV (.c (.fn (.func 37) [] [])) [.t 11]),.m 7 12]) (.seq (.seq (.ops [.m 13 2,.z 14 (.lenSl (.t 13)),.z 15 (.move (.c (.i 0)))]) (.block 0 (.loop (.seq (.ops [.z 16 (.bin .lss false 3 (.t 15) (.t 14))]) (.seq (.cond (.t 16) .skip (.exit 0)) (.seq (.block 1 (.seq (.ops [.z 17 (.ixAddr 9 (.t 13) (.t 15)),.z 18 (.loadN 9 (.t 17)),.z 9 (.alloc [(.i 0),(.str []),(.i 0),.nilSl,(.str []),.nilSl,.nilSl,.nilSl,.nilSl]),⟨none,none,.store 9 (.t 9) (.t 18)⟩]) (.seq (.ops [.m 19 0,.m 20 7,.z 21 (.loadN 9 (.t 9)),.z 22 (.callV (.c (.fn (.func 27) [] [])) [.t 21]),.z 23 (.callV (.c (.fn (.func 38) [] [])) [.t 19,.t 20,.t 22]),.m 10 23]) (.seq (.ops [.m 24 10,.z 25 (.bin .neq true 24 (.t 24) (.c (.i 0)))]) (.cond (.t 25) (.seq (.ops [.m 26 10,.m 6 26]) .ret) .skip))))) (.ops [.z 27 (.bin .add true 3 (.t 15) (.c (.i 1))),.m 15 27]))))))) (.seq (.ops [.z 6 (.move (.c (.i 0)))]) .ret))))
theorem r_types_looker_body : resFn Try.prog 24 = some ⟨28, c_types_looker_body.r, [.tmp 6]⟩ := by kernel_rfl
theorem k_types_looker_body : c_types_looker_body.ok = true := by kernel_rfl
theorem isClone_ok : isClone Try.prog 49 = true := by kernel_rfl
theorem eqMap : eqA Try.prog true 71 (.map 0) .nilMap = some false := by kernel_rfl
theorem eqIf0 : eqA Try.prog true 77 .nilIf .nilIf = some true := by kernel_rfl
theorem eqIf1 : eqA Try.prog true 77 (.iface 0 .nilMap) .nilIf = some false := by kernel_rfl
def tyV (k : Int) (L : List LV) : LV :=
 if k = 1 then .iface 98 (.agg L) else if k = 2 then .iface 99 (.agg L) else if k = 3 then .iface 80 (.agg L) else if k = 4 then .iface 100 (.agg L) else if k = 5 then .iface 81 (.agg L) else .nilIf
section heap
variable {G0 G : LHeap} {K : LV → LHeap → Prop}
theorem clone_any {s ck sst : Nat} {es : Ens} (hs : G[s]? = some (.map (scM es) ck sst)) (k : K (.map G.length) (G ++ [.map (scM es) ck 0])) : CallL Try.prog (.fn 37) [.map s] G K := by
 refine call_body r_maps_Clone_types_scope_string_api_Typed k_maps_Clone_types_scope_string_api_Typed (by simp) ?_
 simp [c_maps_Clone_types_scope_string_api_Typed, eqMap, isClone_ok, hs]
 exact k
theorem typed_any {k : Int} {a1 a2 a3 a4 a5 a6 a7 a8 : LV} (kk : K (tyV k [.i k, a1, a2, a3, a4, a5, a6, a7, a8]) (G ++ [.cells [.i k, a1, a2, a3, a4, a5, a6, a7, a8] 0])) :
  CallL Try.prog (.fn 27) [.agg [.i k, a1, a2, a3, a4, a5, a6, a7, a8]] G K := by
 refine call_body r_types_typed k_types_typed (by simp) ?_
 by_cases h1 : k = 1
 ·subst h1; simp [c_types_typed]; simpa [tyV] using kk
 by_cases h2 : k = 2
 ·subst h2; simp [c_types_typed]; simpa [tyV] using kk
 by_cases h3 : k = 3
 ·subst h3; simp [c_types_typed]; simpa [tyV] using kk
 by_cases h4 : k = 4
 ·subst h4; simp [c_types_typed]; simpa [tyV] using kk
 by_cases h5 : k = 5
 ·subst h5; simp [c_types_typed]; simpa [tyV] using kk
 simp [c_types_typed, h1, h2, h3, h4, h5]
 simpa [tyV, h1, h2, h3, h4, h5] using kk
end heap
structure PrOk (p : PrcT) (ah : List PrcT) : Prop where
 lens : p.lens.length ≤ 9223372036854775807
 ahl : ah.length ≤ 9223372036854775807
 pars : ∀ f ∈ ah, f.params.length ≤ 9223372036854775807
def BodyOk (c : Nat) (p : PrcT) (ah : List PrcT) (b : List Stt) : Prop :=
 ∀ (G : LHeap) (s ck sst : Nat) (es : Ens) (all : List TypT), Lkr G c p ah all → G[s]? = some (.map (scM es) ck sst) → all.length + cntL b ≤ 1000000000 → ∀ K : LV → LHeap → Prop,
  (∀ G', Lkr G' c p ah (bodyE ah p.lens b (scF es) all).2.2 → Frm c c G G' → K (.i (bodyE ah p.lens b (scF es) all).1) G') →
  CallL Try.prog (.fn 24) [.ptr c 0, .map s, .lst (stC b) b.length 9] G K
theorem stmt_any {c : Nat} {p : PrcT} {ah : List PrcT} (hP : PrOk p ah) {n : Nat} (ihb : ∀ b, cntL b < n → okL Stt.ok b → BodyOk c p ah b) (x : Stt) (hx : cntS x ≤ n) (hok : x.ok) {G : LHeap} {s ck sst : Nat} {es : Ens} {all : List TypT} (hL : Lkr G c p ah all) (hs : G[s]? = some (.map (scM es) ck sst)) (hal : all.length + cntS x ≤ 1000000000) {K : LV → LHeap → Prop}
  (k : ∀ G' es' ck' sst', (stmtE ah p.lens x (scF es) all).2.1 = scF es' → Lkr G' c p ah (stmtE ah p.lens x (scF es) all).2.2 → G'[s]? = some (.map (scM es') ck' sst') → Frm c s G G' → K (.i (stmtE ah p.lens x (scF es) all).1) G') :
  ∀ kd, x.f.head? = some (.i kd) → CallL Try.prog (.fn 38) [.ptr c 0, .map s, tyV kd x.f] G K := by
 obtain ⟨kd0, nm, len, op, xs, ns, ls, b⟩ := x
 intro kd hkd
 simp [Stt.f] at hkd
 subst hkd
 rw [Stt.ok] at hok
 obtain ⟨o1, o2, o3, o4, o5, o6, o7, o8, o9⟩ := hok
 have hlt : ∀ l ∈ ls, l.ts.length ≤ 9223372036854775807 := fun l hl => (o7.2 l hl).2.1
 refine call_body r_types_looker_stmt k_types_looker_stmt (by simp) ?_
 rw [show (Stt.mk kd0 nm len op xs ns ls b).f = [.i kd0, .str nm, .i len.c, .lst (tmC len.ts) len.ts.length 2, .str op, .lst (argC xs) xs.length 2, .lst (strC ns) ns.length 1, .lst (lenC ls) ls.length 2, .lst (stC b) b.length 9] by simp [Stt.f]]
 by_cases h1 : kd0 = 1
 ·subst h1
  simp [c_types_looker_stmt, tyV]
  refine let_any (es := es) (hL.ext (Ext.app _ _)) ((Ext.app G _).at_ hs) hP.lens (by omega) o5.1 o3.2.1 fun G' e' es' all' ck' sst' hE hL' hs' hF => ?_
  have hst : stmtE ah p.lens (.mk 1 nm len op xs ns ls b) (scF es) all = (e', scF es', all') := by rw [stmtE, if_pos rfl, hE]
  rw [hst] at k
  simp
  exact k G' es' ck' sst' rfl hL' hs' ((Ext.app G _).frm.trans hF)
 by_cases h2 : kd0 = 2
 ·subst h2
  simp [c_types_looker_stmt, tyV]
  refine set_any (es := es) ((Ext.app G _).at_ hs) o5.1 fun G' hE => ?_
  have hst : stmtE ah p.lens (.mk 2 nm len op xs ns ls b) (scF es) all = (setE nm op xs (scF es), scF es, all) := by rw [stmtE, if_neg (by decide), if_pos rfl]
  rw [hst] at k
  have e' := (Ext.app G _).trans hE
  simp
  exact k G' es ck sst rfl (hL.ext e') (e'.at_ hs) e'.frm
 by_cases h3 : kd0 = 3
 ·subst h3
  obtain ⟨st0, v0, c0, r0⟩ := hL
  have lc0 := (List.getElem?_eq_some_iff.1 c0).1
  have hL : Lkr G c p ah all := ⟨st0, v0, c0, r0⟩
  simp [c_types_looker_stmt, tyV, ↓oldP lc0, c0]
  obtain ⟨G1, hG1⟩ : ∃ G1, G1 = G ++ [LObj.cells [.i 0, .str [], .i 0, .nilSl, .str [], .nilSl, .nilSl, .nilSl, .nilSl] 1, .cells [.i 3, .str nm, .i len.c, .lst (tmC len.ts) len.ts.length 2, .str op, .lst (argC xs) xs.length 2, .lst (strC ns) ns.length 1, .lst (lenC ls) ls.length 2, .lst (stC b) b.length 9] 1] := ⟨_, rfl⟩
  have e1 : Ext G G1 := by rw [hG1]; exact Ext.app _ _
  have x1 : G1[G.length + 1]? = some (.cells [.i 3, .str nm, .i len.c, .lst (tmC len.ts) len.ts.length 2, .str op, .lst (argC xs) xs.length 2, .lst (strC ns) ns.length 1, .lst (lenC ls) ls.length 2, .lst (stC b) b.length 9] 1) := by rw [hG1]; simp
  rw [← hG1]
  refine foreign_any (l := len) o3.2.1 hP.lens fun G2 hE2 => ?_
  have e2 := e1.trans hE2
  have x2 := hE2.at_ x1
  cases hf : foreignE len.ts p.lens with
  | true =>
   have hst : stmtE ah p.lens (.mk 3 nm len op xs ns ls b) (scF es) all = (5, scF es, all) := by rw [stmtE, if_neg (by decide), if_neg (by decide), if_pos rfl, if_pos hf]
   rw [hst] at k
   simp
   exact k G2 es ck sst rfl (hL.ext e2) (e2.at_ hs) e2.frm
  | false =>
   have hst : stmtE ah p.lens (.mk 3 nm len op xs ns ls b) (scF es) all = ((bodyE ah p.lens b (scF es) all).1, scF es, (bodyE ah p.lens b (scF es) all).2.2) := by rw [stmtE, if_neg (by decide), if_neg (by decide), if_pos rfl, if_neg (by rw [hf]; decide)]
   rw [hst] at k
   simp [x2]
   have hcb : cntL b < n := by simp only [cntS] at hx; omega
   refine ihb b hcb ⟨o8, (stsOk_iff b).1 o9⟩ G2 s ck sst es all (hL.ext e2) (e2.at_ hs) (by simp only [cntS] at hal; omega) _ fun G3 hL3 hF3 => ?_
   simp
   have ncs : s ≠ c := fun e => by subst e; rw [hs] at c0; cases c0
   have nm3 : ∀ a b st, no3 (LObj.map a b st) := fun a b st R m k st' e => by cases e
   refine k G3 es ck sst rfl hL3 (hF3.2 s _ (e2.at_ hs) ncs ncs (nm3 _ _ _)) ⟨Nat.le_trans e2.1 hF3.1, fun z o hz z1 z2 z3 => hF3.2 z o (e2.at_ hz) z1 z1 z3⟩
 by_cases h4 : kd0 = 4
 ·subst h4
  simp [c_types_looker_stmt, tyV]
  refine swap_any (es := es) ((Ext.app G _).at_ hs) o6.1 fun G' hE => ?_
  have hst : stmtE ah p.lens (.mk 4 nm len op xs ns ls b) (scF es) all = (swapE ns (scF es), scF es, all) := by rw [stmtE, if_neg (by decide), if_neg (by decide), if_neg (by decide), if_pos rfl]
  rw [hst] at k
  have e' := (Ext.app G _).trans hE
  simp
  exact k G' es ck sst rfl (hL.ext e') (e'.at_ hs) e'.frm
 by_cases h5 : kd0 = 5
 ·subst h5
  simp [c_types_looker_stmt, tyV, eqIf1]
  refine call_any (es := es) (hL.ext (Ext.app _ _)) ((Ext.app G _).at_ hs) hP.lens hP.ahl hP.pars o6.1 o7.1 hlt fun G' hE => ?_
  have hst : stmtE ah p.lens (.mk 5 nm len op xs ns ls b) (scF es) all = (calE ah p.lens nm ns ls (scF es), scF es, all) := by rw [stmtE, if_neg (by decide), if_neg (by decide), if_neg (by decide), if_neg (by decide), if_pos rfl]
  rw [hst] at k
  have e' := (Ext.app G _).trans hE
  simp
  exact k G' es ck sst rfl (hL.ext e') (e'.at_ hs) e'.frm
 have hst : stmtE ah p.lens (.mk kd0 nm len op xs ns ls b) (scF es) all = (2, scF es, all) := by rw [stmtE, if_neg h1, if_neg h2, if_neg h3, if_neg h4, if_neg h5]
 rw [hst] at k
 simp [c_types_looker_stmt, tyV, h1, h2, h3, h4, h5, eqIf0]
 exact k _ es ck sst rfl (hL.ext (Ext.app _ _)) ((Ext.app G _).at_ hs) (Ext.app G _).frm
theorem bodyE_cut {ah : List PrcT} {lens : List Str} {b : List Stt} {i : Nat} {x : Stt} (h : b[i]? = some x) (s : Sc) (all : List TypT) : bodyE ah lens (b.drop i) s all = if (stmtE ah lens x s all).1 = 0 then bodyE ah lens (b.drop (i + 1)) (stmtE ah lens x s all).2.1 (stmtE ah lens x s all).2.2 else stmtE ah lens x s all := by
 have hi := (List.getElem?_eq_some_iff.1 h).1
 rw [List.drop_eq_getElem_cons hi]
 have : b[i] = x := by have := List.getElem?_eq_getElem hi; rw [h] at this; exact (Option.some.inj this).symm
 rw [this, bodyE]
theorem cntL_cut {b : List Stt} {i : Nat} {x : Stt} (h : b[i]? = some x) : cntL (b.drop i) = cntS x + cntL (b.drop (i + 1)) := by
 have hi := (List.getElem?_eq_some_iff.1 h).1
 rw [List.drop_eq_getElem_cons hi]
 have : b[i] = x := by have := List.getElem?_eq_getElem hi; rw [h] at this; exact (Option.some.inj this).symm
 rw [this, cntL]
theorem cntS_le {b : List Stt} {x : Stt} (h : x ∈ b) : cntS x ≤ cntL b := by
 induction b with
 | nil => cases h
 | cons y l ih =>
  rw [cntL]
  rcases List.mem_cons.1 h with rfl | h
  ·omega
  ·have := ih h; omega
theorem body_any {c : Nat} {p : PrcT} {ah : List PrcT} (hP : PrOk p ah) : ∀ (n : Nat) (b : List Stt), cntL b = n → okL Stt.ok b → BodyOk c p ah b := by
 intro n
 induction n using Nat.strongRecOn with
 | _ n ih =>
  intro b hbn hok G s ck sst es all hL hs hal K k
  refine call_body r_types_looker_body k_types_looker_body (by simp) ?_
  simp [c_types_looker_body]
  refine clone_any hs ?_
  simp
  have hrow : stC b = b.flatMap Stt.f := stC_eq b
  have hbl := hok.1
  refine loop_nx (fun ρ D G' N => ∃ (i : Nat) (es' : Ens) (all' : List TypT) (ck' sst' : Nat), D = [] ∧ N + i = b.length ∧ lk ρ 0 = .ptr c 0 ∧ lk ρ 7 = .map G.length ∧ lk ρ 13 = .lst (stC b) b.length 9 ∧ lk ρ 14 = .i b.length ∧ lk ρ 15 = .i i ∧
    Lkr G' c p ah all' ∧ G'[G.length]? = some (.map (scM es') ck' sst') ∧ Frm c c G G' ∧ G.length < G'.length ∧ all'.length + cntL (b.drop i) ≤ 1000000000 ∧ bodyE ah p.lens (b.drop i) (scF es') all' = bodyE ah p.lens b (scF es) all) (N := b.length)
   ⟨0, es, all, ck, 0, rfl, by omega, by simp, by simp, by simp, by simp, by simp, hL.ext (Ext.app _ _), by simp, (Ext.app _ _).frm, by simp, by simpa using hal, by simp⟩ ?_
  rintro N ρ D G' ⟨i, es', all', ck', sst', rfl, hN, h0, h7, h13, h14, h15, hL', hs', hF, hgl, hcn, hgo⟩ Nx hNx
  by_cases gi : i < b.length
  case neg =>
   rw [List.drop_of_length_le (by omega), bodyE] at hgo
   rw [← hgo] at k
   simp [h14, h15, gi]
   exact k G' hL' hF
  obtain ⟨x, hxb⟩ : ∃ x, b[i]? = some x := ⟨_, List.getElem?_eq_getElem gi⟩
  have hxm : x ∈ b := List.mem_iff_getElem?.2 ⟨i, hxb⟩
  rw [bodyE_cut hxb] at hgo
  rw [cntL_cut hxb] at hcn
  have q9 : ((stC b).drop (i * 9)).take 9 = x.f := by rw [hrow]; exact fm_take Stt.f_len hxb
  have hq9 : i * 9 + 9 ≤ (stC b).length := by rw [hrow]; exact fm_lt Stt.f_len gi
  obtain ⟨kd, a1, a2, a3, a4, a5, a6, a7, a8, hxf⟩ : ∃ kd a1 a2 a3 a4 a5 a6 a7 a8, x.f = [.i kd, a1, a2, a3, a4, a5, a6, a7, a8] := by
   obtain ⟨kd, nm, len, op, xs, ns, ls, bb⟩ := x
   exact ⟨_, _, _, _, _, _, _, _, _, by rw [Stt.f]⟩
  have hst := stmtE_len ah p.lens x (scF es') all'
  simp [h0, h7, h13, h14, h15, gi, q9, hq9, hxf]
  refine typed_any ?_
  rw [← hxf]
  simp
  obtain ⟨G2, hG2⟩ : ∃ G2, G2 = G' ++ [LObj.cells x.f 1, .cells x.f 0] := ⟨_, rfl⟩
  have e2 : Ext G' G2 := by rw [hG2]; exact Ext.app _ _
  rw [← hG2]
  refine stmt_any hP (n := n) (fun b' h1 h2 => ih (cntL b') h1 b' rfl h2) x (by have := cntS_le hxm; omega) (hok.2 x hxm) (hL'.ext e2) (e2.at_ hs') (by omega) (fun G3 es3 ck3 sst3 hE3 hL3 hs3 hF3 => ?_) kd (by rw [hxf]; rfl)
  have hF4 : Frm c c G G3 := ⟨Nat.le_trans hF.1 (Nat.le_trans e2.1 hF3.1), fun z o hz z1 z2 z3 => hF3.2 z o (e2.at_ (hF.2 z o hz z1 z2 z3)) z1 (fun e => by have := (List.getElem?_eq_some_iff.1 hz).1; omega) z3⟩
  by_cases hz : (stmtE ah p.lens x (scF es') all').1 = 0
  ·rw [if_pos hz, hE3] at hgo
   simp [hz, h15]
   exact ⟨by omega, hNx _ _ _ ⟨N - 1, by omega, i + 1, es3, _, ck3, sst3, rfl, by omega, by simp [h0], by simp [h7], by simp [h13], by simp [h14], by simp, hL3, hs3, hF4, by have := e2.1; have := hF3.1; omega, by omega, hgo⟩⟩
  ·rw [if_neg hz] at hgo
   rw [← hgo] at k
   simp [hz]
   exact k G3 hL3 hF4
end Go.Proofs.Ytcbbilifblbblaa
