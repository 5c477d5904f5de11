/- A procedure is looked at; all are: walked. -/
import Derived.Test.YtcbbilifblbblaaFnTh
namespace Go.Proofs.Ytcbbilifblbblaa
open Go.Sv
set_option linter.unusedSimpArgs false
set_option linter.unusedVariables false
set_option maxRecDepth 10000
def c_types_looker_look : LC := (.seq (.ops [.z 1 (.box (.t 0)),.z 2 (.move (.c (.i 0)))]) (.seq (.seq (.ops [.l 9 1,.z 10 (.nilChk (.t 9)),.f 11 6 10,.l 12 11,.z 13 (.mkFunc 21 [] [.t 1]),.z 14 (.callV (.c (.fn (.func 20) [] [])) [.t 12,.t 13])]) (.cond (.t 14) (.seq (.ops [.z 2 (.move (.c (.i 6)))]) .ret) .skip)) (.seq (.ops [.z 15 (.mkMap0),.m 3 15]) (.seq (.seq (.ops [.l 16 1,.z 17 (.nilChk (.t 16)),.f 18 0 17,.f 19 1 18,.l 20 19,.z 21 (.lenSl (.t 20)),.z 22 (.move (.c (.i 0)))]) (.block 0 (.loop (.seq (.ops [.z 23 (.bin .lss false 3 (.t 22) (.t 21))]) (.seq (.cond (.t 23) .skip (.exit 0)) (.seq (.block 1 (.seq (.ops [.z 24 (.ixAddr 1 (.t 20) (.t 22)),.l 25 24,.m 5 25]) (.ops [.m 26 3,.m 27 5,.z 28 (.build [] []),⟨none,none,.mapUpd .string (.t 26) (.t 27) (.t 28)⟩]))) (.ops [.z 29 (.bin .add true 3 (.t 22) (.c (.i 1))),.m 22 29]))))))) (.seq (.seq (.draw [(.m 30 3,[]),(.z 31 (.lenMap (.t 30)),[]),(.l 32 1,[]),(.z 33 (.nilChk (.t 32)),[]),(.f 34 0 33,[]),(.f 35 1 34,[]),(.l 36 35,[]),(.z 37 (.lenSl (.t 36)),[]),(.z 38 (.bin .neq false 3 (.t 31) (.t 37)),[])]) (.cond (.t 38) (.seq (.ops [.z 2 (.move (.c (.i 6)))]) .ret) .skip)) (.seq (.seq (.ops [.l 39 1,.z 40 (.callV (.c (.fn (.func 22) [] [])) [.t 39]),.m 6 40]) (.seq (.ops [.m 41 6,.z 42 (.bin .neq true 24 (.t 41) (.c (.i 0)))]) (.cond (.t 42) (.seq (.ops [.m 43 6,.m 2 43]) .ret) .skip))) (.seq (.seq (.draw [(.l 44 1,[]),(.l 45 1,[]),(.z 46 (.nilChk (.t 45)),[]),(.f 47 0 46,[]),(.f 48 3 47,[]),(.l 49 48,[]),(.z 50 (.callV (.c (.fn (.func 23) [] [])) [.t 44,.t 49,(.c (.bool true))]),[]),(.m 7 50,[])]) (.seq (.ops [.m 51 7,.z 52 (.bin .neq true 24 (.t 51) (.c (.i 0)))]) (.cond (.t 52) (.seq (.ops [.m 53 7,.m 2 53]) .ret) .skip))) (.seq (.seq (.draw [(.l 54 1,[]),(.l 55 1,[]),(.z 56 (.nilChk (.t 55)),[]),(.f 57 0 56,[]),(.f 58 4 57,[]),(.l 59 58,[]),(.z 60 (.callV (.c (.fn (.func 23) [] [])) [.t 54,.t 59,(.c (.bool false))]),[]),(.m 8 60,[])]) (.seq (.ops [.m 61 8,.z 62 (.bin .neq true 24 (.t 61) (.c (.i 0)))]) (.cond (.t 62) (.seq (.ops [.m 63 8,.m 2 63]) .ret) .skip))) (.seq (.draw [(.l 64 1,[]),(.l 65 1,[]),(.z 66 (.nilChk (.t 65)),[]),(.f 67 7 66,[]),(.l 68 67,[]),(.l 70 1,[]),(.z 71 (.nilChk (.t 70)),[]),(.f 72 0 71,[]),(.f 73 5 72,[]),(.l 74 73,[]),(.z 69 (.callV (.c (.fn (.func 25) [] [])) [.t 68]),[(.l 74 73,false),(.l 70 1,false),(.l 64 1,false)]),(.z 75 (.callV (.c (.fn (.func 24) [] [])) [.t 64,.t 69,.t 74]),[]),(.m 2 75,[])]) .ret)))))))))
theorem r_types_looker_look : resFn Try.prog 13 = some ⟨76, c_types_looker_look.r, [.tmp 2]⟩ := by kernel_rfl
theorem k_types_looker_look : c_types_looker_look.ok = true := by kernel_rfl
def c_types_looker_look_1 : LC := (.seq (.ops [.z 2 (.box (.t 0)),.z 3 (.move (.c (.bool false)))]) (.seq (.draw [(.f 4 0 2,[]),(.l 5 4,[]),(.l 6 1,[]),(.z 7 (.nilChk (.t 6)),[]),(.f 8 0 7,[]),(.f 9 0 8,[]),(.l 10 9,[]),(.z 11 (.bin .eql false 9 (.t 5) (.t 10)),[]),(.m 3 11,[])]) .ret))
theorem r_types_looker_look_1 : resFn Try.prog 21 = some ⟨12, c_types_looker_look_1.r, [.tmp 3]⟩ := by kernel_rfl
theorem k_types_looker_look_1 : c_types_looker_look_1.ok = true := by kernel_rfl
def c_types_Check : LC := (.seq (.ops [.z 2 (.move (.c (.i 0))),.z 3 (.move (.c (.i 0)))]) (.seq (.seq (.ops [.m 8 0,.z 9 (.lenSl (.t 8)),.z 10 (.bin .eql true 3 (.t 9) (.c (.i 0)))]) (.cond (.t 10) (.seq (.ops [.z 2 (.move (.c (.i 0))),.z 3 (.move (.c (.i 2)))]) .ret) .skip)) (.seq (.seq (.ops [.m 11 0,.z 12 (.lenSl (.t 11)),.z 13 (.move (.c (.i 0)))]) (.block 0 (.loop (.seq (.ops [.z 14 (.bin .lss false 3 (.t 13) (.t 12))]) (.seq (.cond (.t 14) .skip (.exit 0)) (.seq (.block 1 (.seq (.ops [.m 15 13,.z 16 (.ixAddr 6 (.t 11) (.t 13)),.z 17 (.loadN 6 (.t 16)),.z 5 (.alloc [(.str []),.nilSl,.nilSl,.nilSl,.nilSl,.nilSl]),.m 4 15,⟨none,none,.store 6 (.t 5) (.t 17)⟩]) (.seq (.draw [(.z 18 (.loadN 6 (.t 5)),[]),(.m 19 0,[]),(.m 20 4,[]),(.z 21 (.slSl 6 (.t 19) none (some (.t 20))),[]),(.z 22 (.build [(.str []),.nilSl,.nilSl,.nilSl,.nilSl,.nilSl,.nilSl,.nilSl] [(0,6,.t 18),(6,1,.t 21)]),[]),(.z 23 (.box (.t 22)),[(.z 18 (.loadN 6 (.t 5)),false)]),(.m 6 23,[])]) (.seq (.ops [.m 24 6,.z 25 (.callV (.c (.fn (.func 13) [] [])) [.t 24]),.m 7 25]) (.seq (.ops [.m 26 7,.z 27 (.bin .neq true 24 (.t 26) (.c (.i 0)))]) (.cond (.t 27) (.seq (.ops [.m 28 4,.m 29 7,.m 2 28,.m 3 29]) .ret) .skip)))))) (.ops [.z 30 (.bin .add true 3 (.t 13) (.c (.i 1))),.m 13 30]))))))) (.seq (.ops [.m 31 0,.z 32 (.lenSl (.t 31)),.m 2 32,.z 3 (.move (.c (.i 0)))]) .ret))))
theorem r_types_Check : resFn Try.prog 6 = some ⟨33, c_types_Check.r, [.tmp 2, .tmp 3]⟩ := by kernel_rfl
theorem k_types_Check : c_types_Check.ok = true := by kernel_rfl
section heap
variable {G0 G : LHeap} {K : LV → LHeap → Prop} {g : Nat} {fs cap : List LV}
theorem look_1_any {b c st : Nat} {p : PrcT} {ah : List PrcT} {all : List TypT} (hL : Lkr G0 c p ah all) (hb : G0[b]? = some (.cells [.ptr c 0] st)) (v : PrcT) : Prd Try.prog 21 [] [.ptr b 0] (.agg v.f) G0 (decide (v.name = p.name)) := by
 intro G1 hE K k
 refine call_body r_types_looker_look_1 k_types_looker_look_1 (by simp) ?_
 have hb1 := hE.at_ hb
 obtain ⟨st2, v2, c1, r1⟩ := hL.ext hE
 have lb := (List.getElem?_eq_some_iff.1 hb1).1
 have lc := (List.getElem?_eq_some_iff.1 c1).1
 simp [c_types_looker_look_1, PrcT.f, ↓oldP lb, ↓oldP lc, hb1, c1]
 exact k _ (Ext.app _ _)
theorem HasPrc_any2 {q' : PrcT → Bool} (l : List PrcT) (hl : l.length ≤ 9223372036854775807) (hq' : ∀ a ∈ l, Prd Try.prog g fs cap (.agg a.f) G (q' a)) (k : ∀ G', Ext G G' → K (.bool (l.any q')) G') :
  CallL Try.prog (.fn 20) [.lst (prcC l) l.length 6, .fn (.func g) fs cap] G K := HasPrc_any l hl (Ext.refl G) hq' k
theorem look_any {c : Nat} {p : PrcT} {ah : List PrcT} (hL : Lkr G c p ah []) (hP : PrOk p ah) (hok : p.ok) (hps : p.params.length + cntL p.body ≤ 1000000000)
  (k : ∀ G', Lkr G' c p ah (lookE ah p).2 → Frm c c G G' → K (.i (lookE ah p).1) G') :
  CallL Try.prog (.fn 13) [.ptr c 0] G K := by
 refine call_body r_types_looker_look k_types_looker_look (by simp) ?_
 obtain ⟨o1, o2, o3, o4, o5, o6⟩ := hok
 obtain ⟨st0, v0, c0, r0⟩ := hL
 have hL : Lkr G c p ah [] := ⟨st0, v0, c0, r0⟩
 have lc0 := (List.getElem?_eq_some_iff.1 c0).1
 simp [c_types_looker_look, ↓oldP lc0, c0]
 obtain ⟨G1, hG1⟩ : ∃ G1, G1 = G ++ [LObj.cells [.ptr c 0] 0] := ⟨_, rfl⟩
 have e1 : Ext G G1 := by rw [hG1]; exact Ext.app _ _
 have b1 : G1[G.length]? = some (.cells [.ptr c 0] 0) := by rw [hG1]; simp
 rw [← hG1]
 refine HasPrc_any2 (q' := fun q => decide (q.name = p.name)) ah hP.ahl (fun a _ => look_1_any (b := G.length) (hL.ext e1) b1 a) fun G2 hE2 => ?_
 have e2 := e1.trans hE2
 have b2 := hE2.at_ b1
 have c2 := e2.at_ c0
 cases hq : ah.any (fun q => decide (q.name = p.name)) with
 | true =>
  simp
  have hl : lookE ah p = (6, []) := by unfold lookE; rw [if_pos hq]
  rw [hl] at k
  exact k G2 (hL.ext e2) e2.frm
 | false =>
 have lb2 := (List.getElem?_eq_some_iff.1 b2).1
 have lc2 := (List.getElem?_eq_some_iff.1 c2).1
 simp [↓oldP lb2, ↓oldP lc2, b2, c2]
 refine loop_nx (fun ρ D G' N => ∃ (i : Nat) (es : List (Str × Nat)) (ck st : Nat), D = [] ∧ N + i = p.lens.length ∧ lk ρ 1 = .ptr G.length 0 ∧ lk ρ 3 = .map G2.length ∧ lk ρ 20 = .lst (strC p.lens) p.lens.length 1 ∧ lk ρ 21 = .i p.lens.length ∧ lk ρ 22 = .i i ∧ G'[G2.length]? = some (.map (snM es) ck st) ∧ Ext G2 G' ∧ disE (p.lens.drop i) (es.map (·.1)) = disE p.lens []) (N := p.lens.length)
  ⟨0, [], 0, 0, rfl, by omega, by simp, by simp, by simp, by simp, by simp, by simp [snM], Ext.app _ _, by simp⟩ ?_
 rintro N ρ D G' ⟨i, es, ck, st, rfl, hN, h1, h3, h20, h21, h22, hm, hE, hgo⟩ Nx hNx
 have e3 := e2.trans hE
 have b3 := hE.at_ b2
 have c3 := hE.at_ c2
 by_cases gi : i < p.lens.length
 ·obtain ⟨x, hx⟩ : ∃ x, p.lens[i]? = some x := ⟨_, List.getElem?_eq_getElem gi⟩
  have qs : (strC p.lens)[i]? = some (.str x) := map_at (f := LV.str) hx
  have hqs : i < (strC p.lens).length := by simp [strC]; omega
  have hcut : disE (p.lens.drop i) (es.map (·.1)) = disE (p.lens.drop (i + 1)) ((snPut x ck es).map (·.1)) := by
   have := List.getElem?_eq_getElem gi
   rw [hx] at this
   rw [List.drop_eq_getElem_cons gi, ← Option.some.inj this, disE, snPut_keys]
  rw [hcut] at hgo
  have lm := (List.getElem?_eq_some_iff.1 hm).1
  simp [h3, h20, h21, h22, gi, nthL_at qs, hqs, hm, put_sn]
  unfold setK
  have hpl := hP.lens
  simp [h22]
  refine ⟨by omega, hNx _ _ _ ⟨N - 1, by omega, i + 1, snPut x ck es, _, _, rfl, by omega, by simp [h1], by simp [h3], by simp [h20], by simp [h21], by simp, List.getElem?_set_self lm, ⟨by rw [List.length_set]; exact hE.1, fun z hz => by rw [List.getElem?_set_ne (by omega)]; exact hE.2 z hz⟩, hgo⟩⟩
 rw [List.drop_of_length_le (by omega), disE] at hgo
 have hsl : (snM es).length = (disE p.lens []).length := by rw [← hgo]; simp [snM]
 by_cases hd : (disE p.lens []).length = p.lens.length
 case neg =>
  have hd' : ¬ ((disE p.lens []).length : Int) = p.lens.length := by omega
  simp [h1, h3, h21, h22, gi, hm, b3, c3, hsl, hd']
  have hl : lookE ah p = (6, []) := by unfold lookE; rw [if_neg (by rw [hq]; decide), if_pos hd]
  rw [hl] at k
  exact k G' (hL.ext e3) e3.frm
 have hd' : ((disE p.lens []).length : Int) = p.lens.length := by omega
 have hl0 : lookE ah p = if (parsE p.lens p.params []).1 ≠ 0 then parsE p.lens p.params [] else if clasE (parsE p.lens p.params []).2 true p.req ≠ 0 then (clasE (parsE p.lens p.params []).2 true p.req, (parsE p.lens p.params []).2)
   else if clasE (parsE p.lens p.params []).2 false p.ens ≠ 0 then (clasE (parsE p.lens p.params []).2 false p.ens, (parsE p.lens p.params []).2)
   else ((bodyE ah p.lens p.body (visE (parsE p.lens p.params []).2) (parsE p.lens p.params []).2).1, (bodyE ah p.lens p.body (visE (parsE p.lens p.params []).2) (parsE p.lens p.params []).2).2.2) := by
  unfold lookE; rw [if_neg (by rw [hq]; decide), if_neg (fun h => h hd)]
 rw [hl0] at k
 clear hl0 hNx
 simp [h1, h3, h21, h22, gi, hm, b3, c3, hsl, hd']
 refine params_any (hL.ext e3) hP.lens (by omega) (fun x hx => (o3.2 x hx).2.2.2.1) fun G4 hL4 hF4 => ?_
 have hpl : (parsE p.lens p.params []).2.length ≤ p.params.length := by
  have : ∀ (ps : List ParT) (a : List TypT), (parsE p.lens ps a).2.length ≤ a.length + ps.length := by
   intro ps
   induction ps with
   | nil => intro a; simp [parsE]
   | cons x ps ih =>
    intro a
    rw [parsE]
    split
    ·simp
    ·have := ih (a ++ [⟨x.name, !decide (x.mode = 1), x.mode⟩])
     simp at this ⊢
     omega
  have := this p.params []
  simpa using this
 have n6 : ∀ cs st, no3 (LObj.cells cs st) := fun cs st R m k st' e => by cases e
 have ncb : G.length ≠ c := fun e => by rw [← e, List.getElem?_eq_none (by omega)] at c0; cases c0
 have b4 := hF4.2 _ _ b3 ncb ncb (n6 _ _)
 generalize hpe : parsE p.lens p.params [] = pe at *
 obtain ⟨pe1, all⟩ := pe
 dsimp only at hL4 hpl k ⊢
 have f4 : Frm c c G G4 := e3.frm.trans hF4
 by_cases hz : pe1 = 0
 case neg =>
  rw [if_pos hz] at k
  simp [hz]
  exact k G4 hL4 f4
 subst hz
 rw [if_neg (fun h => h rfl)] at k
 obtain ⟨st4, v4, c4, r4⟩ := hL4
 have hL4 : Lkr G4 c p ah all := ⟨st4, v4, c4, r4⟩
 simp [h1, b4, c4]
 refine clauses_any hL4 (by omega) true p.req o4.1 fun G5 hE5 => ?_
 have f5 : Frm c c G G5 := f4.trans hE5.frm
 by_cases hc1 : clasE all true p.req = 0
 case neg =>
  rw [if_pos hc1] at k
  simp [hc1]
  exact k G5 (hL4.ext hE5) f5
 rw [if_neg (fun h => h hc1)] at k
 simp [hc1, h1, hE5.at_ b4, hE5.at_ c4]
 refine clauses_any (hL4.ext hE5) (by omega) false p.ens o5.1 fun G6 hE6 => ?_
 have e56 := hE5.trans hE6
 have f6 : Frm c c G G6 := f4.trans e56.frm
 by_cases hc2 : clasE all false p.ens = 0
 case neg =>
  rw [if_pos hc2] at k
  simp [hc2]
  exact k G6 (hL4.ext e56) f6
 rw [if_neg (fun h => h hc2)] at k
 have b6 := e56.at_ b4
 have c6 := e56.at_ c4
 have hL6 := hL4.ext e56
 obtain ⟨st6, v6, c6', r6⟩ := hL6
 have hL6 : Lkr G6 c p ah all := ⟨st6, v6, c6', r6⟩
 clear c6
 simp [hc2, h1, b6, c6']
 refine visible_any r6 (by omega) fun G7 m es7 ck7 st7 hes hmG hm7 hE7 => ?_
 simp [h1, b6, c6', hE7.at_ b6, hE7.at_ c6']
 refine body_any hP _ p.body rfl o6 G7 m ck7 st7 es7 all (hL6.ext hE7) hm7 (by omega) _ fun G8 hL8 hF8 => ?_
 rw [hes] at hL8 ⊢
 simp
 exact k G8 hL8 ((f6.trans hE7.frm).trans hF8)
end heap
end Go.Proofs.Ytcbbilifblbblaa
