/- Check, may, Vars: walked. -/
import Derived.Test.YtcbbilifblbblaaSvG3
import Derived.Test.YtcbbilifblbblaaFnTi
namespace Go.Proofs.Ytcbbilifblbblaa
open Go.Sv
set_option linter.unusedSimpArgs false
set_option linter.unusedVariables false
set_option maxRecDepth 10000
def c_types_may : LC := (.seq (.ops [.z 4 (.move (.c (.bool false)))]) (.seq (.ops [.m 8 0,.z 9 (.callV (.c (.fn (.func 6) [] [])) [.t 8]),.m 7 9,.z 10 (.extract 0 (.t 7)),.z 11 (.extract 1 (.t 7)),.m 5 10,.m 6 11]) (.seq (.ops [.m 12 6,.z 13 (.bin .eql true 24 (.t 12) (.c (.i 0))),.m 14 13,⟨some 15,(some (14,true)),.move (.t 1)⟩,⟨some 16,(some (14,true)),.bin .geq true 3 (.t 15) (.c (.i 0))⟩,.z 17 (.pick (.t 14) (.t 16) (.c (.bool false))),.m 18 17,⟨some 19,(some (18,true)),.move (.t 1)⟩,⟨some 20,(some (18,true)),.move (.t 0)⟩,⟨some 21,(some (18,true)),.lenSl (.t 20)⟩,⟨some 22,(some (18,true)),.bin .lss false 3 (.t 19) (.t 21)⟩,.z 23 (.pick (.t 18) (.t 22) (.c (.bool false))),.m 4 23]) .ret)))
theorem r_types_may : resFn Try.prog 17 = some ⟨24, c_types_may.r, [.tmp 4]⟩ := by kernel_rfl
theorem k_types_may : c_types_may.ok = true := by kernel_rfl
theorem prOk_of {l : List PrcT} (hl : SrcOk l) {i : Nat} (hi : i < l.length) : PrOk (gp l i) (l.take i) := by
 have hm : gp l i ∈ l := List.mem_iff_getElem?.2 ⟨i, gp_at hi⟩
 have h := hl.1.2 _ hm
 exact ⟨h.2.1.1, by have := hl.1.1; rw [List.length_take]; omega, fun f hf => (hl.1.2 f (List.mem_of_mem_take hf)).2.2.1.1⟩
theorem Check_ok (l : List PrcT) (hl : SrcOk l) : FnV Try.prog 6 [.lst (prcC l) l.length 6] (.tup [.i (checkE l).1, .i (checkE l).2]) := by
 refine FnV.mk (by simp [LV.dat, dats]) (call_body r_types_Check k_types_Check (by simp) ?_)
 by_cases h0 : l = []
 ·subst h0
  simp [c_types_Check, checkE, borR, bors, bor, LV.dat]
 have hce : checkE l = checkF l (l.drop 0) 0 := by rw [checkE, if_neg h0]; rfl
 rw [hce]
 have hll := hl.1.1
 simp [c_types_Check, h0]
 refine loop_nx (fun ρ D G' N => ∃ i : Nat, D = [] ∧ N + i = l.length ∧ lk ρ 0 = .lst (prcC l) l.length 6 ∧ lk ρ 11 = .lst (prcC l) l.length 6 ∧ lk ρ 12 = .i l.length ∧ lk ρ 13 = .i i ∧ checkF l (l.drop i) i = checkF l l 0) (N := l.length)
  ⟨0, rfl, by omega, by simp, by simp, by simp, by simp, by simp⟩ ?_
 rintro N ρ D G' ⟨i, rfl, hN, h0, h11, h12, h13, hgo⟩ Nx hNx
 by_cases gi : i < l.length
 case neg =>
  rw [List.drop_of_length_le (by omega)] at hgo
  have : i = l.length := by omega
  subst this
  rw [← hgo]
  simp [h0, h12, h13, checkF, borR, bors, bor, LV.dat]
 rw [checkF_cut (gp_at gi)] at hgo
 have q6 : ((prcC l).drop (i * 6)).take 6 = (gp l i).f := fm_take PrcT.f_len (gp_at gi)
 have hq6 : i * 6 + 6 ≤ (prcC l).length := fm_lt PrcT.f_len gi
 have hm : gp l i ∈ l := List.mem_iff_getElem?.2 ⟨i, gp_at gi⟩
 simp [h0, h11, h12, h13, gi, q6, hq6, PrcT.f]
 obtain ⟨G2, hG2⟩ : ∃ G2, G2 = G' ++ [LObj.cells (gp l i).f 1, .cells [.str (gp l i).name, .lst (strC (gp l i).lens) (gp l i).lens.length 1, .lst (parC (gp l i).params) (gp l i).params.length 4, .lst (claC (gp l i).req) (gp l i).req.length 3, .lst (claC (gp l i).ens) (gp l i).ens.length 3, .lst (stC (gp l i).body) (gp l i).body.length 9, .lst ((prcC l).take (i * 6)) i 6, .nilSl] 0] := ⟨_, rfl⟩
 have c2 : Lkr G2 (G'.length + 1) (gp l i) (l.take i) [] := by
  refine ⟨0, .nilSl, ?_, .inl ⟨rfl, rfl⟩⟩
  rw [hG2, ← prcC_take, List.length_take, Nat.min_eq_left (by omega)]
  simp
 simp only [PrcT.f] at hG2
 rw [← hG2]
 refine ⟨by omega, look_any c2 (prOk_of hl gi) (hl.1.2 _ hm) (hl.2 _ hm) fun G3 _ _ => ?_⟩
 by_cases hz : (lookE (l.take i) (gp l i)).1 = 0
 ·rw [if_neg (fun h => h hz)] at hgo
  simp [hz, h13]
  exact ⟨by omega, hNx _ _ _ ⟨N - 1, by omega, i + 1, rfl, by omega, by simp [h0], by simp [h11], by simp [h12], by simp, hgo⟩⟩
 ·rw [if_pos hz] at hgo
  rw [← hgo]
  simp [hz, borR, bors, bor, LV.dat]
theorem may_ok (l : List PrcT) (hl : SrcOk l) (i : Int) : FnV Try.prog 17 [.lst (prcC l) l.length 6, .i i] (.bool (mayE l i)) := by
 refine FnV.mk rfl (call_body r_types_may k_types_may (by simp) ?_)
 simp [c_types_may]
 refine CallL_V (Check_ok l hl) (by simp [dats, LV.dat, prcC_dats]) ?_
 have hm : mayE l i = (decide ((checkE l).2 = 0) && (decide (0 ≤ i) && decide (i < l.length))) := rfl
 rw [hm]
 by_cases h1 : (checkE l).2 = 0
 ·by_cases h2 : 0 ≤ i
  ·simp [h1, h2, borR, bor, LV.dat]
  ·simp [h1, h2, borR, bor, LV.dat]
 ·simp [h1, borR, bor, LV.dat]
end Go.Proofs.Ytcbbilifblbblaa
