/- Chapter 20: kernels of one's own, runs of them. -/
import Derived.Test.YtnbnhnjffiagmaaGreatFnNi
import Derived.Test.YtnbnhnjffiagmaaGreatSvG3
namespace Go.Proofs.YtnbnhnjffiagmaaGreat
open Go.Sv
set_option linter.unusedSimpArgs false
set_option maxRecDepth 10000
def c_kit_Own_api_Var : LC := (.seq (.ops [.z 2 (.move (.c .nilSl))]) (.seq (.ops [.z 3 (.buildSl 3 0 [] []),.m 4 0,.z 5 (.appG 3 (.t 3) (.t 4)),.m 2 5]) .ret))
theorem r_kit_Own_api_Var : resFn Tryz.prog 63 = some ⟨6, c_kit_Own_api_Var.r, [.tmp 2]⟩ := by kernel_rfl
theorem k_kit_Own_api_Var : c_kit_Own_api_Var.ok = true := by kernel_rfl
def c_kit_Own_api_KernOp : LC := (.seq (.ops [.z 2 (.move (.c .nilSl))]) (.seq (.ops [.z 3 (.buildSl 7 0 [] []),.m 4 0,.z 5 (.appG 7 (.t 3) (.t 4)),.m 2 5]) .ret))
theorem r_kit_Own_api_KernOp : resFn Tryz.prog 64 = some ⟨6, c_kit_Own_api_KernOp.r, [.tmp 2]⟩ := by kernel_rfl
theorem k_kit_Own_api_KernOp : c_kit_Own_api_KernOp.ok = true := by kernel_rfl
def c_kit_OwnKern : LC := (.seq (.ops [.z 1 (.box (.t 0)),.z 2 (.alloc [.nilSl,.nilSl,.nilSl])]) (.seq (.draw [(.f 3 0 1,[]),(.l 4 3,[]),(.f 6 1 1,[]),(.l 7 6,[]),(.f 9 2 1,[]),(.l 10 9,[]),(.z 5 (.callV (.c (.fn (.func 63) [] [])) [.t 4]),[(.l 10 9,false),(.l 7 6,false)]),(.z 8 (.callV (.c (.fn (.func 64) [] [])) [.t 7]),[(.l 10 9,false)]),(.z 11 (.callV (.c (.fn (.func 64) [] [])) [.t 10]),[]),(.z 12 (.build [.nilSl,.nilSl,.nilSl] [(0,1,.t 5),(1,1,.t 8),(2,1,.t 11)]),[]),(⟨none,none,.store 3 (.t 2) (.t 12)⟩,[])]) .ret))
theorem r_kit_OwnKern : resFn Tryz.prog 35 = some ⟨13, c_kit_OwnKern.r, [.cellN 2 3]⟩ := by kernel_rfl
theorem k_kit_OwnKern : c_kit_OwnKern.ok = true := by kernel_rfl
def c_kit_Pick : LC := (.seq (.ops [.z 4 (.move (.c (.i 0)))]) (.seq (.seq (.ops [.m 6 1,.z 7 (.bin .lss true 3 (.t 6) (.c (.i 1)))]) (.cond (.t 7) (.seq (.ops [.z 4 (.move (.c (.i 0)))]) .ret) .skip)) (.seq (.ops [.m 8 0,.m 9 1,.z 10 (.bin .rem false 3 (.t 8) (.t 9)),.m 5 10]) (.seq (.seq (.ops [.m 11 5,.z 12 (.bin .lss true 3 (.t 11) (.c (.i 0)))]) (.cond (.t 12) (.ops [.m 13 5,.m 14 1,.z 15 (.bin .add false 3 (.t 13) (.t 14)),.m 5 15]) .skip)) (.seq (.ops [.m 16 5,.m 4 16]) .ret)))))
theorem r_kit_Pick : resFn Tryz.prog 36 = some ⟨17, c_kit_Pick.r, [.tmp 4]⟩ := by kernel_rfl
theorem k_kit_Pick : c_kit_Pick.ok = true := by kernel_rfl
theorem vsC_scal (l : List Vr) : (vsC l).all LV.scal = true := by
 induction l with
 | nil => rfl
 | cons x l ih => simp only [vsC, List.flatMap_cons] at ih ⊢; rw [List.all_append, ih]; rfl
theorem osC_scal (l : List Ko) : (osC l).all LV.scal = true := by
 induction l with
 | nil => rfl
 | cons x l ih => simp only [osC, List.flatMap_cons] at ih ⊢; rw [List.all_append, ih]; rfl
theorem Own_Var_ok (l : List Vr) (h : l.length ≤ 1048576) : FnS Tryz.prog 63 [.lst (vsC l) l.length 3] (.dy 0 0) [.dyn (vsC l) l.length 3 0 0] := by
 refine FnS.mk rfl (call_body r_kit_Own_api_Var k_kit_Own_api_Var (by simp) ?_) (fun j ob e => ?_)
 ·simp [c_kit_Own_api_Var, h]
  exact ⟨[.dy 0 1], rfl, rfl, by simp [SelR, vsC_scal]⟩
 ·cases j with
  | zero => simp at e; subst e; exact ⟨_, _, _, rfl, vsC_scal l⟩
  | succ j => simp at e
theorem Own_KernOp_ok (l : List Ko) (h : l.length ≤ 1048576) : FnS Tryz.prog 64 [.lst (osC l) l.length 7] (.dy 0 0) [.dyn (osC l) l.length 7 0 0] := by
 refine FnS.mk rfl (call_body r_kit_Own_api_KernOp k_kit_Own_api_KernOp (by simp) ?_) (fun j ob e => ?_)
 ·simp [c_kit_Own_api_KernOp, h]
  exact ⟨[.dy 0 1], rfl, rfl, by simp [SelR, osC_scal]⟩
 ·cases j with
  | zero => simp at e; subst e; exact ⟨_, _, _, rfl, osC_scal l⟩
  | succ j => simp at e
theorem OwnKern_any {G : LHeap} {vs : List Vr} {os rs : List Ko} {K : LV → LHeap → Prop} (h1 : vs.length ≤ 1000) (h2 : os.length ≤ 1000) (h3 : rs.length ≤ 1000)
  (k : ∀ G2 p, Keep G G2 → G.length ≤ p → G2[p]? = some (.dyn (vsC vs) vs.length 3 0 0) → G2[p + 1]? = some (.dyn (osC os) os.length 7 0 0) → G2[p + 2]? = some (.dyn (osC rs) rs.length 7 0 0) → K (.agg [.dy p 0, .dy (p + 1) 0, .dy (p + 2) 0]) G2) : CallL Tryz.prog (.fn 35) [.agg (kerC vs os rs)] G K := by
 refine call_body r_kit_OwnKern k_kit_OwnKern (by simp) ?_
 simp [c_kit_OwnKern, kerC]
 refine CallL_S (Own_Var_ok vs (by omega)) (bors_self _ (by simp [dats, LV.dat, vsC_dats])) ?_
 simp
 refine CallL_S (Own_KernOp_ok os (by omega)) (bors_self _ (by simp [dats, LV.dat, osC_dats])) ?_
 simp
 refine CallL_S (Own_KernOp_ok rs (by omega)) (bors_self _ (by simp [dats, LV.dat, osC_dats])) ?_
 simp
 refine k _ (G.length + 2) ⟨by simp, fun q hq => old1 hq⟩ (by omega) ?_ ?_ ?_
 ·rw [List.getElem?_append_right (by omega), show G.length + 2 - G.length = 2 by omega]; rfl
 ·rw [List.getElem?_append_right (by omega), show G.length + 2 + 1 - G.length = 3 by omega]; rfl
 ·rw [List.getElem?_append_right (by omega), show G.length + 2 + 2 - G.length = 4 by omega]; rfl
theorem kit_Pick_ok (n m : Int) (hm : 1 ≤ m ∧ m < 1000000) : ∃ k : Nat, (k : Int) < m ∧ FnS Tryz.prog 36 [.i n, .i m] (.i k) [] := by
 have h1 : ¬ m < 1 := by omega
 have h0 : m ≠ 0 := by omega
 have hlo : n.tmod m < m := Int.tmod_lt_of_pos n (by omega)
 have hhi : -m < n.tmod m := by
  have h := Int.tmod_lt_of_pos (-n) (show 0 < m by omega)
  rw [Int.neg_tmod] at h
  omega
 by_cases hneg : n.tmod m < 0
 ·obtain ⟨k, hk⟩ := Int.eq_ofNat_of_zero_le (show 0 ≤ n.tmod m + m by omega)
  refine ⟨k, by omega, FnS.val rfl (call_body r_kit_Pick k_kit_Pick (by simp) ?_)⟩
  simp [c_kit_Pick, h1, h0, hneg]
  omega
 ·obtain ⟨k, hk⟩ := Int.eq_ofNat_of_zero_le (show 0 ≤ n.tmod m by omega)
  refine ⟨k, by omega, FnS.val rfl (call_body r_kit_Pick k_kit_Pick (by simp) ?_)⟩
  simp [c_kit_Pick, h1, h0, hneg, hk]
  omega
theorem runs_len {vs : List Vr} {os rs : List Ko} {ns : List Nat} (hv : vs.length ≤ 1000) : (runD vs os rs ns).1.length ≤ 1000 ∧ ∀ x ∈ (runD vs os rs ns).1, x.length ≤ 1000000 := by
 obtain ⟨b1, b2⟩ := run_bounds (vs := vs) (os := os) (rs := rs) (ns := ns)
 by_cases he : (runD vs os rs ns).2 = 0
 ·obtain ⟨c1, c2, c3, c4⟩ := b2 he
  obtain ⟨hc, _, _⟩ := fitD_parts c4
  have hvb : varsB vs = true := by unfold chkB at hc; simp only [Bool.and_eq_true] at hc; exact hc.1
  have hol : (outV vs).length ≤ vs.length := by rw [outV_those]; exact thoseV_len _ _ _
  refine ⟨by omega, fun x hx => ?_⟩
  obtain ⟨i, hi, rfl⟩ := List.mem_iff_getElem.1 hx
  have h1 := c2 i hi (by omega)
  have h2 := varsB_limbs hvb _ (gv_mem (outV_lt (List.getElem_mem (show i < (outV vs).length by omega))))
  omega
 ·rw [b1 he]; simp
theorem same_runs {G : LHeap} {a b : List (List UInt64)} {K : LV → LHeap → Prop} (ha : a.length ≤ 1000 ∧ ∀ x ∈ a, x.length ≤ 1000000) (hb : b.length ≤ 1000 ∧ ∀ x ∈ b, x.length ≤ 1000000) (k : K (.bool (decide (a.map val = b.map val))) G) : CallL Tryz.prog (.fn 25) [LN a, LN b] G K := by
 refine CallL_F (kit_SameNats_ok a b (by omega) (fun x hx => by have := ha.2 x hx; omega) (fun x hx => by have := hb.2 x hx; omega)) (bors_self _ (by simp [dats, LV.dat, LN, LN_dats])) ?_
 simpa using k
end Go.Proofs.YtnbnhnjffiagmaaGreat
