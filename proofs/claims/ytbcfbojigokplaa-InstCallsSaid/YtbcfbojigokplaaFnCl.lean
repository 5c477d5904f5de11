/- Instructions: Check. -/
import Derived.Test.YtbcfbojigokplaaFnCk
namespace Go.Proofs.Ytbcfbojigokplaa
open Go.Sv
set_option linter.unusedSimpArgs false
set_option maxRecDepth 10000

theorem memEq2 (a b c d : Int) : eqA Try.prog false 23 (.agg (toAs [.i a, .i b, .i c, .i d])) (.agg (toAs [.i 0, .i 0, .i 0, .i 0])) = some (decide (a = 0) && (decide (b = 0) && (decide (c = 0) && decide (d = 0)))) := by
  have h := memEq a b c d
  have e : [some (eqI a 0), some (eqI b 0), some (eqI c 0), some (eqI d 0)] = [eqI a 0, eqI b 0, eqI c 0, eqI d 0].map some := rfl
  rw [e, resG_some] at h
  refine Eq.trans h ?_
  simp only [eqI_spec, List.all_cons, List.all_nil, Bool.and_true, id]
  rfl
theorem part_in (x : In) (j : Nat) (h : j < 3) : ([LV.i 1, .i x.d, .i 2, .i x.s, .i 4, .i x.t].drop (j * 2)).take 2 = [.i ([1, 2, 4].getD j 0), .i ([x.d, x.s, x.t].getD j 0)] := by
  match j, h with
  | 0, _ => rfl
  | 1, _ => rfl
  | 2, _ => rfl
theorem Check_ok (x : In) (h1 : inI x.imm) (h2 : inI x.disp) : FnS Try.prog 9 [.agg x.c] (.i (if checkB x = true then 0 else 2)) [] := by
  refine FnS.val rfl (call_body r_inst_Check k_inst_Check (by simp) ?_)
  have he := ft_small x.op
  have hdef : checkB x = (decide ((ftOf x.op).1 ≠ []) && numB (ftOf x.op) x.imm && (partB (ftOf x.op) 1 x.d && (partB (ftOf x.op) 2 x.s && partB (ftOf x.op) 4 x.t)) && (memB (ftOf x.op) x.base x.index x.scale x.disp && !(hasB (ftOf x.op) 4 && decide (x.d = x.s)))) := rfl
  have hof := inst_of_ok x.op
  generalize ftOf x.op = e at *
  simp [c_inst_Check, In.c]
  refine CallL_F hof (by simp) ?_
  have hfr : frVs [] (ftC e) = ftC e := rfl
  simp [hfr, ftC]
  by_cases h0 : e.1 = []
  · simp [h0, hdef]
  simp [h0]
  refine CallL_F (number_ok e x.imm he h1) (bors_self _ rfl) ?_
  cases hnum : numB e x.imm with
  | false => simp [hdef, hnum]
  | true =>
  simp
  have hC : x.c = [.i x.op, .i x.d, .i x.s, .i x.t, .i x.base, .i x.index, .i x.scale, .i x.disp, .i x.imm] := rfl
  have hF : ftC e = [.str e.1, .i e.2.1, .i e.2.2.1, .i e.2.2.2] := rfl
  rw [← hC, ← hF]
  refine loop_nx (fun ρ D G N => ∃ i : Nat, D = [] ∧ G[0]? = some (.cells x.c 0) ∧ G[1]? = some (.cells (ftC e) 1) ∧ N + i = 3 ∧ lk ρ 1 = .ptr 0 0 ∧ lk ρ 3 = .ptr 1 0 ∧ lk ρ 28 = .agg [.i 1, .i x.d, .i 2, .i x.s, .i 4, .i x.t] ∧ lk ρ 29 = .i i ∧ ∀ j, j < i → partB e ([1, 2, 4].getD j 0) ([x.d, x.s, x.t].getD j 0) = true)
    (N := 3) ⟨0, rfl, rfl, rfl, rfl, by simp, by simp, by simp, by simp, fun j h => by omega⟩ ?_
  rintro N ρ D G ⟨i, rfl, hG0, hG1, hN, k1, k3, k28, k29, hall⟩ Nx hNx
  have f1 : (ftC e).length = 4 := rfl
  have f2 : (ftC e).take 4 = ftC e := rfl
  by_cases hi : 3 ≤ i
  · have g : ¬ (i : Int) < 3 := by omega
    have p1 := hall 0 (by omega)
    have p2 := hall 1 (by omega)
    have p3 := hall 2 (by omega)
    simp at p1 p2 p3
    simp [k1, k3, k29, hG0, hG1, g, f1, f2]
    have hd : checkB x = (memB e x.base x.index x.scale x.disp && !(hasB e 4 && decide (x.d = x.s))) := by simp [hdef, h0, hnum, p1, p2, p3]
    refine CallL_F (hasB_ok e 8 he (by omega)) (bors_self _ rfl) ?_
    cases hb : hasB e 8 with
    | true =>
      simp [k1, hG0, hC]
      refine CallL_F (place_ok x.base x.index x.scale x.disp h2) (by simp) ?_
      cases hpl : placeB x.base x.index x.scale x.disp with
      | false => simp [hd, memB, hb, hpl]
      | true =>
        simp [k3, hG1, f1, f2]
        refine CallL_F (hasB_ok e 8 he (by omega)) (bors_self _ rfl) ?_
        simp [hb, k3, hG1, f1, f2]
        refine CallL_F (hasB_ok e 4 he (by omega)) (bors_self _ rfl) ?_
        cases h4 : hasB e 4 with
        | false => simp [hd, memB, hb, hpl, h4]
        | true => by_cases hds : x.d = x.s <;> simp [hd, memB, hb, hpl, h4, hds, k1, hG0, hC]
    | false =>
      simp [k3, hG1, f1, f2]
      refine CallL_F (hasB_ok e 8 he (by omega)) (bors_self _ rfl) ?_
      simp [hb, k1, hG0, hC]
      refine ⟨_, rfl, rfl, memEq2 _ _ _ _, ?_⟩
      have hmm : memB e x.base x.index x.scale x.disp = (decide (x.base = 0) && (decide (x.index = 0) && (decide (x.scale = 0) && decide (x.disp = 0)))) := by simp [memB, hb]
      rw [← hmm]
      cases hm : memB e x.base x.index x.scale x.disp with
      | false => simp [hd, hm]
      | true =>
        simp [k3, hG1, f1, f2]
        refine CallL_F (hasB_ok e 4 he (by omega)) (bors_self _ rfl) ?_
        cases h4 : hasB e 4 with
        | false => simp [hd, hm, h4]
        | true => by_cases hds : x.d = x.s <;> simp [hd, hm, h4, hds, k1, hG0, hC]
  · obtain rfl | rfl | rfl : i = 0 ∨ i = 1 ∨ i = 2 := by omega
    · simp [k28, k29, k3, gapp hG0, gapp hG1, f1, f2]
      refine CallL_F (hasB_ok e 1 he (by omega)) (bors_self _ rfl) ?_
      cases hb : hasB e 1 with
      | true =>
        simp
        refine CallL_F (inst_register_ok x.d) (by simp) ?_
        rw [show decide (0 ≤ x.d ∧ x.d ≤ 15) = regB x.d from rfl]
        cases hr : regB x.d with
        | false =>
          have hp : partB e 1 x.d = false := by simp [partB, hb, hr]
          simp [hdef, hp]
        | true =>
          have hp : partB e 1 x.d = true := by simp [partB, hb, hr]
          simp [k3, gapp hG1, f1, f2]
          refine CallL_F (hasB_ok e 1 he (by omega)) (bors_self _ rfl) ?_
          simp [hb, k29]
          exact hNx _ _ _ ⟨N - 1, by omega, 1, rfl, gapp hG0 _, gapp hG1 _, by omega, by simp [k1], by simp [k3], by simp [k28], by simp, fun j hj => (Nat.lt_succ_iff_lt_or_eq.1 hj).elim (hall j) fun h => by rw [h]; exact hp⟩
      | false =>
        simp [k3, gapp hG1, f1, f2]
        refine CallL_F (hasB_ok e 1 he (by omega)) (bors_self _ rfl) ?_
        by_cases hr : x.d = 0
        · have hp : partB e 1 x.d = true := by simp [partB, hb, hr]
          simp [hb, hr, k29]
          exact hNx _ _ _ ⟨N - 1, by omega, 1, rfl, gapp hG0 _, gapp hG1 _, by omega, by simp [k1], by simp [k3], by simp [k28], by simp, fun j hj => (Nat.lt_succ_iff_lt_or_eq.1 hj).elim (hall j) fun h => by rw [h]; exact hp⟩
        · have hp : partB e 1 x.d = false := by simp [partB, hb, hr]
          simp [hb, hr, hdef, hp]
    · simp [k28, k29, k3, gapp hG0, gapp hG1, f1, f2]
      refine CallL_F (hasB_ok e 2 he (by omega)) (bors_self _ rfl) ?_
      cases hb : hasB e 2 with
      | true =>
        simp
        refine CallL_F (inst_register_ok x.s) (by simp) ?_
        rw [show decide (0 ≤ x.s ∧ x.s ≤ 15) = regB x.s from rfl]
        cases hr : regB x.s with
        | false =>
          have hp : partB e 2 x.s = false := by simp [partB, hb, hr]
          simp [hdef, hp]
        | true =>
          have hp : partB e 2 x.s = true := by simp [partB, hb, hr]
          simp [k3, gapp hG1, f1, f2]
          refine CallL_F (hasB_ok e 2 he (by omega)) (bors_self _ rfl) ?_
          simp [hb, k29]
          exact hNx _ _ _ ⟨N - 1, by omega, 2, rfl, gapp hG0 _, gapp hG1 _, by omega, by simp [k1], by simp [k3], by simp [k28], by simp, fun j hj => (Nat.lt_succ_iff_lt_or_eq.1 hj).elim (hall j) fun h => by rw [h]; exact hp⟩
      | false =>
        simp [k3, gapp hG1, f1, f2]
        refine CallL_F (hasB_ok e 2 he (by omega)) (bors_self _ rfl) ?_
        by_cases hr : x.s = 0
        · have hp : partB e 2 x.s = true := by simp [partB, hb, hr]
          simp [hb, hr, k29]
          exact hNx _ _ _ ⟨N - 1, by omega, 2, rfl, gapp hG0 _, gapp hG1 _, by omega, by simp [k1], by simp [k3], by simp [k28], by simp, fun j hj => (Nat.lt_succ_iff_lt_or_eq.1 hj).elim (hall j) fun h => by rw [h]; exact hp⟩
        · have hp : partB e 2 x.s = false := by simp [partB, hb, hr]
          simp [hb, hr, hdef, hp]
    · simp [k28, k29, k3, gapp hG0, gapp hG1, f1, f2]
      refine CallL_F (hasB_ok e 4 he (by omega)) (bors_self _ rfl) ?_
      cases hb : hasB e 4 with
      | true =>
        simp
        refine CallL_F (inst_register_ok x.t) (by simp) ?_
        rw [show decide (0 ≤ x.t ∧ x.t ≤ 15) = regB x.t from rfl]
        cases hr : regB x.t with
        | false =>
          have hp : partB e 4 x.t = false := by simp [partB, hb, hr]
          simp [hdef, hp]
        | true =>
          have hp : partB e 4 x.t = true := by simp [partB, hb, hr]
          simp [k3, gapp hG1, f1, f2]
          refine CallL_F (hasB_ok e 4 he (by omega)) (bors_self _ rfl) ?_
          simp [hb, k29]
          exact hNx _ _ _ ⟨N - 1, by omega, 3, rfl, gapp hG0 _, gapp hG1 _, by omega, by simp [k1], by simp [k3], by simp [k28], by simp, fun j hj => (Nat.lt_succ_iff_lt_or_eq.1 hj).elim (hall j) fun h => by rw [h]; exact hp⟩
      | false =>
        simp [k3, gapp hG1, f1, f2]
        refine CallL_F (hasB_ok e 4 he (by omega)) (bors_self _ rfl) ?_
        by_cases hr : x.t = 0
        · have hp : partB e 4 x.t = true := by simp [partB, hb, hr]
          simp [hb, hr, k29]
          exact hNx _ _ _ ⟨N - 1, by omega, 3, rfl, gapp hG0 _, gapp hG1 _, by omega, by simp [k1], by simp [k3], by simp [k28], by simp, fun j hj => (Nat.lt_succ_iff_lt_or_eq.1 hj).elim (hall j) fun h => by rw [h]; exact hp⟩
        · have hp : partB e 4 x.t = false := by simp [partB, hb, hr]
          simp [hb, hr, hdef, hp]
end Go.Proofs.Ytbcfbojigokplaa
