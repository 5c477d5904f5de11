/- slices.IndexFunc, ContainsFunc with a function that looks at what stands in the heap (printed by gen18/ta.py). -/
import Derived.Test.YtcbbilifblbblaaSvG3
import Derived.Test.YtcbbilifblbblaaFnTb
namespace Go.Proofs.Ytcbbilifblbblaa
open Go.Sv
set_option linter.unusedSimpArgs false
set_option linter.unusedVariables false
set_option maxRecDepth 10000
def c_slices_IndexFunc_api_Arg_api_Arg : LC := (.seq (.ops [.z 4 (.move (.c (.i 0)))]) (.seq (.seq (.ops [.m 6 0,.z 7 (.lenSl (.t 6)),.z 8 (.move (.c (.i 0)))]) (.block 0 (.loop (.seq (.ops [.z 9 (.bin .lss false 3 (.t 8) (.t 7))]) (.seq (.cond (.t 9) .skip (.exit 0)) (.seq (.block 1 (.seq (.ops [.m 10 8,.m 5 10]) (.seq (.ops [.m 11 1,.m 12 0,.m 13 5,.z 14 (.ixAddr 2 (.t 12) (.t 13)),.z 15 (.loadN 2 (.t 14)),.z 16 (.callV (.t 11) [.t 15])]) (.cond (.t 16) (.seq (.ops [.m 17 5,.m 4 17]) .ret) .skip)))) (.ops [.z 18 (.bin .add true 3 (.t 8) (.c (.i 1))),.m 8 18]))))))) (.seq (.ops [.z 4 (.move (.c (.i (-1))))]) .ret)))
theorem r_slices_IndexFunc_api_Arg_api_Arg : resFn Try.prog 90 = some ⟨19, c_slices_IndexFunc_api_Arg_api_Arg.r, [.tmp 4]⟩ := by kernel_rfl
theorem k_slices_IndexFunc_api_Arg_api_Arg : c_slices_IndexFunc_api_Arg_api_Arg.ok = true := by kernel_rfl
def c_slices_ContainsFunc_api_Arg_api_Arg : LC := (.seq (.ops [.z 4 (.move (.c (.bool false)))]) (.seq (.ops [.m 5 0,.m 6 1,.z 7 (.callV (.c (.fn (.func 90) [] [])) [.t 5,.t 6]),.z 8 (.bin .geq true 3 (.t 7) (.c (.i 0))),.m 4 8]) .ret))
theorem r_slices_ContainsFunc_api_Arg_api_Arg : resFn Try.prog 81 = some ⟨9, c_slices_ContainsFunc_api_Arg_api_Arg.r, [.tmp 4]⟩ := by kernel_rfl
theorem k_slices_ContainsFunc_api_Arg_api_Arg : c_slices_ContainsFunc_api_Arg_api_Arg.ok = true := by kernel_rfl
def c_slices_IndexFunc_api_Len_api_Len : LC := (.seq (.ops [.z 4 (.move (.c (.i 0)))]) (.seq (.seq (.ops [.m 6 0,.z 7 (.lenSl (.t 6)),.z 8 (.move (.c (.i 0)))]) (.block 0 (.loop (.seq (.ops [.z 9 (.bin .lss false 3 (.t 8) (.t 7))]) (.seq (.cond (.t 9) .skip (.exit 0)) (.seq (.block 1 (.seq (.ops [.m 10 8,.m 5 10]) (.seq (.ops [.m 11 1,.m 12 0,.m 13 5,.z 14 (.ixAddr 2 (.t 12) (.t 13)),.z 15 (.loadN 2 (.t 14)),.z 16 (.callV (.t 11) [.t 15])]) (.cond (.t 16) (.seq (.ops [.m 17 5,.m 4 17]) .ret) .skip)))) (.ops [.z 18 (.bin .add true 3 (.t 8) (.c (.i 1))),.m 8 18]))))))) (.seq (.ops [.z 4 (.move (.c (.i (-1))))]) .ret)))
theorem r_slices_IndexFunc_api_Len_api_Len : resFn Try.prog 84 = some ⟨19, c_slices_IndexFunc_api_Len_api_Len.r, [.tmp 4]⟩ := by kernel_rfl
theorem k_slices_IndexFunc_api_Len_api_Len : c_slices_IndexFunc_api_Len_api_Len.ok = true := by kernel_rfl
def c_slices_ContainsFunc_api_Len_api_Len : LC := (.seq (.ops [.z 4 (.move (.c (.bool false)))]) (.seq (.ops [.m 5 0,.m 6 1,.z 7 (.callV (.c (.fn (.func 84) [] [])) [.t 5,.t 6]),.z 8 (.bin .geq true 3 (.t 7) (.c (.i 0))),.m 4 8]) .ret))
theorem r_slices_ContainsFunc_api_Len_api_Len : resFn Try.prog 68 = some ⟨9, c_slices_ContainsFunc_api_Len_api_Len.r, [.tmp 4]⟩ := by kernel_rfl
theorem k_slices_ContainsFunc_api_Len_api_Len : c_slices_ContainsFunc_api_Len_api_Len.ok = true := by kernel_rfl
def c_slices_IndexFunc_api_Proc_api_Proc : LC := (.seq (.ops [.z 4 (.move (.c (.i 0)))]) (.seq (.seq (.ops [.m 6 0,.z 7 (.lenSl (.t 6)),.z 8 (.move (.c (.i 0)))]) (.block 0 (.loop (.seq (.ops [.z 9 (.bin .lss false 3 (.t 8) (.t 7))]) (.seq (.cond (.t 9) .skip (.exit 0)) (.seq (.block 1 (.seq (.ops [.m 10 8,.m 5 10]) (.seq (.ops [.m 11 1,.m 12 0,.m 13 5,.z 14 (.ixAddr 6 (.t 12) (.t 13)),.z 15 (.loadN 6 (.t 14)),.z 16 (.callV (.t 11) [.t 15])]) (.cond (.t 16) (.seq (.ops [.m 17 5,.m 4 17]) .ret) .skip)))) (.ops [.z 18 (.bin .add true 3 (.t 8) (.c (.i 1))),.m 8 18]))))))) (.seq (.ops [.z 4 (.move (.c (.i (-1))))]) .ret)))
theorem r_slices_IndexFunc_api_Proc_api_Proc : resFn Try.prog 29 = some ⟨19, c_slices_IndexFunc_api_Proc_api_Proc.r, [.tmp 4]⟩ := by kernel_rfl
theorem k_slices_IndexFunc_api_Proc_api_Proc : c_slices_IndexFunc_api_Proc_api_Proc.ok = true := by kernel_rfl
def c_slices_ContainsFunc_api_Proc_api_Proc : LC := (.seq (.ops [.z 4 (.move (.c (.bool false)))]) (.seq (.ops [.m 5 0,.m 6 1,.z 7 (.callV (.c (.fn (.func 29) [] [])) [.t 5,.t 6]),.z 8 (.bin .geq true 3 (.t 7) (.c (.i 0))),.m 4 8]) .ret))
theorem r_slices_ContainsFunc_api_Proc_api_Proc : resFn Try.prog 20 = some ⟨9, c_slices_ContainsFunc_api_Proc_api_Proc.r, [.tmp 4]⟩ := by kernel_rfl
theorem k_slices_ContainsFunc_api_Proc_api_Proc : c_slices_ContainsFunc_api_Proc_api_Proc.ok = true := by kernel_rfl
def c_slices_IndexFunc_api_Term_api_Term : LC := (.seq (.ops [.z 4 (.move (.c (.i 0)))]) (.seq (.seq (.ops [.m 6 0,.z 7 (.lenSl (.t 6)),.z 8 (.move (.c (.i 0)))]) (.block 0 (.loop (.seq (.ops [.z 9 (.bin .lss false 3 (.t 8) (.t 7))]) (.seq (.cond (.t 9) .skip (.exit 0)) (.seq (.block 1 (.seq (.ops [.m 10 8,.m 5 10]) (.seq (.ops [.m 11 1,.m 12 0,.m 13 5,.z 14 (.ixAddr 2 (.t 12) (.t 13)),.z 15 (.loadN 2 (.t 14)),.z 16 (.callV (.t 11) [.t 15])]) (.cond (.t 16) (.seq (.ops [.m 17 5,.m 4 17]) .ret) .skip)))) (.ops [.z 18 (.bin .add true 3 (.t 8) (.c (.i 1))),.m 8 18]))))))) (.seq (.ops [.z 4 (.move (.c (.i (-1))))]) .ret)))
theorem r_slices_IndexFunc_api_Term_api_Term : resFn Try.prog 62 = some ⟨19, c_slices_IndexFunc_api_Term_api_Term.r, [.tmp 4]⟩ := by kernel_rfl
theorem k_slices_IndexFunc_api_Term_api_Term : c_slices_IndexFunc_api_Term_api_Term.ok = true := by kernel_rfl
def c_slices_ContainsFunc_api_Term_api_Term : LC := (.seq (.ops [.z 4 (.move (.c (.bool false)))]) (.seq (.ops [.m 5 0,.m 6 1,.z 7 (.callV (.c (.fn (.func 62) [] [])) [.t 5,.t 6]),.z 8 (.bin .geq true 3 (.t 7) (.c (.i 0))),.m 4 8]) .ret))
theorem r_slices_ContainsFunc_api_Term_api_Term : resFn Try.prog 46 = some ⟨9, c_slices_ContainsFunc_api_Term_api_Term.r, [.tmp 4]⟩ := by kernel_rfl
theorem k_slices_ContainsFunc_api_Term_api_Term : c_slices_ContainsFunc_api_Term_api_Term.ok = true := by kernel_rfl
def c_slices_IndexFunc_string_string : LC := (.seq (.ops [.z 4 (.move (.c (.i 0)))]) (.seq (.seq (.ops [.m 6 0,.z 7 (.lenSl (.t 6)),.z 8 (.move (.c (.i 0)))]) (.block 0 (.loop (.seq (.ops [.z 9 (.bin .lss false 3 (.t 8) (.t 7))]) (.seq (.cond (.t 9) .skip (.exit 0)) (.seq (.block 1 (.seq (.ops [.m 10 8,.m 5 10]) (.seq (.ops [.m 11 1,.m 12 0,.m 13 5,.z 14 (.ixAddr 1 (.t 12) (.t 13)),.l 15 14,.z 16 (.callV (.t 11) [.t 15])]) (.cond (.t 16) (.seq (.ops [.m 17 5,.m 4 17]) .ret) .skip)))) (.ops [.z 18 (.bin .add true 3 (.t 8) (.c (.i 1))),.m 8 18]))))))) (.seq (.ops [.z 4 (.move (.c (.i (-1))))]) .ret)))
theorem r_slices_IndexFunc_string_string : resFn Try.prog 48 = some ⟨19, c_slices_IndexFunc_string_string.r, [.tmp 4]⟩ := by kernel_rfl
theorem k_slices_IndexFunc_string_string : c_slices_IndexFunc_string_string.ok = true := by kernel_rfl
def c_slices_ContainsFunc_string_string : LC := (.seq (.ops [.z 4 (.move (.c (.bool false)))]) (.seq (.ops [.m 5 0,.m 6 1,.z 7 (.callV (.c (.fn (.func 48) [] [])) [.t 5,.t 6]),.z 8 (.bin .geq true 3 (.t 7) (.c (.i 0))),.m 4 8]) .ret))
theorem r_slices_ContainsFunc_string_string : resFn Try.prog 34 = some ⟨9, c_slices_ContainsFunc_string_string.r, [.tmp 4]⟩ := by kernel_rfl
theorem k_slices_ContainsFunc_string_string : c_slices_ContainsFunc_string_string.ok = true := by kernel_rfl
section funcs
variable {G0 G : LHeap} {K : LV → LHeap → Prop} {g : Nat} {fs cap : List LV}
theorem IxArg_any {q' : ArgT → Bool} (l : List ArgT) (hl : l.length ≤ 9223372036854775807) (hG : Ext G0 G) (hq' : ∀ a ∈ l, Prd Try.prog g fs cap (.agg a.f) G0 (q' a)) (k : ∀ G', Ext G G' → K (.i (ixZ q' l)) G') :
  CallL Try.prog (.fn 90) [.lst (argC l) l.length 2, .fn (.func g) fs cap] G K := by
 refine call_body r_slices_IndexFunc_api_Arg_api_Arg k_slices_IndexFunc_api_Arg_api_Arg (by simp) ?_
 simp [c_slices_IndexFunc_api_Arg_api_Arg]
 refine loop_nx (fun ρ D G' N => ∃ i : Nat, D = [] ∧ N + i = l.length ∧ lk ρ 0 = .lst (argC l) l.length 2 ∧ lk ρ 1 = .fn (.func g) fs cap ∧ lk ρ 7 = .i l.length ∧ lk ρ 8 = .i i ∧ Ext G G' ∧ ∀ j b, j < i → l[j]? = some b → q' b = false) (N := l.length)
  ⟨0, rfl, by omega, by simp, by simp, by simp, by simp, Ext.refl G, fun j b hj => by omega⟩ ?_
 rintro N ρ D G' ⟨i, rfl, hN, h0, h1, h7, h8, hE, hn⟩ Nx hNx
 by_cases gi : i < l.length
 ·obtain ⟨a, ha⟩ : ∃ a, l[i]? = some a := ⟨_, List.getElem?_eq_getElem gi⟩
  have q : ((argC l).drop (i * 2)).take 2 = a.f := fm_take ArgT.f_len ha
  have hq : i * 2 + 2 ≤ (argC l).length := fm_lt ArgT.f_len gi
  simp [h0, h1, h7, h8, gi, q, hq]
  refine hq' a (List.mem_iff_getElem?.2 ⟨i, ha⟩) G' (hG.trans hE) _ fun G2 hE2 => ?_
  cases hb : q' a with
  | true =>
   simp
   rw [← ixZ_at ha hb hn]
   exact k G2 (hE.trans hE2)
  | false =>
   simp [h8]
   refine ⟨by omega, hNx _ _ _ ⟨N - 1, by omega, i + 1, rfl, by omega, by simp [h0], by simp [h1], by simp [h7], by simp, hE.trans hE2, fun j b hj hjb => ?_⟩⟩
   by_cases e : j = i
   ·subst e; rw [ha] at hjb; cases hjb; exact hb
   ·exact hn j b (by omega) hjb
 ·simp [h0, h1, h7, h8, gi]
  rw [← ixZ_none (Nat.le_of_not_lt gi) hn]
  exact k G' hE
theorem HasArg_any {q' : ArgT → Bool} (l : List ArgT) (hl : l.length ≤ 9223372036854775807) (hG : Ext G0 G) (hq' : ∀ a ∈ l, Prd Try.prog g fs cap (.agg a.f) G0 (q' a)) (k : ∀ G', Ext G G' → K (.bool (l.any q')) G') :
  CallL Try.prog (.fn 81) [.lst (argC l) l.length 2, .fn (.func g) fs cap] G K := by
 refine call_body r_slices_ContainsFunc_api_Arg_api_Arg k_slices_ContainsFunc_api_Arg_api_Arg (by simp) ?_
 simp [c_slices_ContainsFunc_api_Arg_api_Arg]
 refine IxArg_any l hl hG hq' fun G' hE => ?_
 simp
 rw [ixZ_any]
 exact k G' hE
theorem IxLen_any {q' : LenT → Bool} (l : List LenT) (hl : l.length ≤ 9223372036854775807) (hG : Ext G0 G) (hq' : ∀ a ∈ l, Prd Try.prog g fs cap (.agg a.f) G0 (q' a)) (k : ∀ G', Ext G G' → K (.i (ixZ q' l)) G') :
  CallL Try.prog (.fn 84) [.lst (lenC l) l.length 2, .fn (.func g) fs cap] G K := by
 refine call_body r_slices_IndexFunc_api_Len_api_Len k_slices_IndexFunc_api_Len_api_Len (by simp) ?_
 simp [c_slices_IndexFunc_api_Len_api_Len]
 refine loop_nx (fun ρ D G' N => ∃ i : Nat, D = [] ∧ N + i = l.length ∧ lk ρ 0 = .lst (lenC l) l.length 2 ∧ lk ρ 1 = .fn (.func g) fs cap ∧ lk ρ 7 = .i l.length ∧ lk ρ 8 = .i i ∧ Ext G G' ∧ ∀ j b, j < i → l[j]? = some b → q' b = false) (N := l.length)
  ⟨0, rfl, by omega, by simp, by simp, by simp, by simp, Ext.refl G, fun j b hj => by omega⟩ ?_
 rintro N ρ D G' ⟨i, rfl, hN, h0, h1, h7, h8, hE, hn⟩ Nx hNx
 by_cases gi : i < l.length
 ·obtain ⟨a, ha⟩ : ∃ a, l[i]? = some a := ⟨_, List.getElem?_eq_getElem gi⟩
  have q : ((lenC l).drop (i * 2)).take 2 = a.f := fm_take LenT.f_len ha
  have hq : i * 2 + 2 ≤ (lenC l).length := fm_lt LenT.f_len gi
  simp [h0, h1, h7, h8, gi, q, hq]
  refine hq' a (List.mem_iff_getElem?.2 ⟨i, ha⟩) G' (hG.trans hE) _ fun G2 hE2 => ?_
  cases hb : q' a with
  | true =>
   simp
   rw [← ixZ_at ha hb hn]
   exact k G2 (hE.trans hE2)
  | false =>
   simp [h8]
   refine ⟨by omega, hNx _ _ _ ⟨N - 1, by omega, i + 1, rfl, by omega, by simp [h0], by simp [h1], by simp [h7], by simp, hE.trans hE2, fun j b hj hjb => ?_⟩⟩
   by_cases e : j = i
   ·subst e; rw [ha] at hjb; cases hjb; exact hb
   ·exact hn j b (by omega) hjb
 ·simp [h0, h1, h7, h8, gi]
  rw [← ixZ_none (Nat.le_of_not_lt gi) hn]
  exact k G' hE
theorem HasLen_any {q' : LenT → Bool} (l : List LenT) (hl : l.length ≤ 9223372036854775807) (hG : Ext G0 G) (hq' : ∀ a ∈ l, Prd Try.prog g fs cap (.agg a.f) G0 (q' a)) (k : ∀ G', Ext G G' → K (.bool (l.any q')) G') :
  CallL Try.prog (.fn 68) [.lst (lenC l) l.length 2, .fn (.func g) fs cap] G K := by
 refine call_body r_slices_ContainsFunc_api_Len_api_Len k_slices_ContainsFunc_api_Len_api_Len (by simp) ?_
 simp [c_slices_ContainsFunc_api_Len_api_Len]
 refine IxLen_any l hl hG hq' fun G' hE => ?_
 simp
 rw [ixZ_any]
 exact k G' hE
theorem IxPrc_any {q' : PrcT → Bool} (l : List PrcT) (hl : l.length ≤ 9223372036854775807) (hG : Ext G0 G) (hq' : ∀ a ∈ l, Prd Try.prog g fs cap (.agg a.f) G0 (q' a)) (k : ∀ G', Ext G G' → K (.i (ixZ q' l)) G') :
  CallL Try.prog (.fn 29) [.lst (prcC l) l.length 6, .fn (.func g) fs cap] G K := by
 refine call_body r_slices_IndexFunc_api_Proc_api_Proc k_slices_IndexFunc_api_Proc_api_Proc (by simp) ?_
 simp [c_slices_IndexFunc_api_Proc_api_Proc]
 refine loop_nx (fun ρ D G' N => ∃ i : Nat, D = [] ∧ N + i = l.length ∧ lk ρ 0 = .lst (prcC l) l.length 6 ∧ lk ρ 1 = .fn (.func g) fs cap ∧ lk ρ 7 = .i l.length ∧ lk ρ 8 = .i i ∧ Ext G G' ∧ ∀ j b, j < i → l[j]? = some b → q' b = false) (N := l.length)
  ⟨0, rfl, by omega, by simp, by simp, by simp, by simp, Ext.refl G, fun j b hj => by omega⟩ ?_
 rintro N ρ D G' ⟨i, rfl, hN, h0, h1, h7, h8, hE, hn⟩ Nx hNx
 by_cases gi : i < l.length
 ·obtain ⟨a, ha⟩ : ∃ a, l[i]? = some a := ⟨_, List.getElem?_eq_getElem gi⟩
  have q : ((prcC l).drop (i * 6)).take 6 = a.f := fm_take PrcT.f_len ha
  have hq : i * 6 + 6 ≤ (prcC l).length := fm_lt PrcT.f_len gi
  simp [h0, h1, h7, h8, gi, q, hq]
  refine hq' a (List.mem_iff_getElem?.2 ⟨i, ha⟩) G' (hG.trans hE) _ fun G2 hE2 => ?_
  cases hb : q' a with
  | true =>
   simp
   rw [← ixZ_at ha hb hn]
   exact k G2 (hE.trans hE2)
  | false =>
   simp [h8]
   refine ⟨by omega, hNx _ _ _ ⟨N - 1, by omega, i + 1, rfl, by omega, by simp [h0], by simp [h1], by simp [h7], by simp, hE.trans hE2, fun j b hj hjb => ?_⟩⟩
   by_cases e : j = i
   ·subst e; rw [ha] at hjb; cases hjb; exact hb
   ·exact hn j b (by omega) hjb
 ·simp [h0, h1, h7, h8, gi]
  rw [← ixZ_none (Nat.le_of_not_lt gi) hn]
  exact k G' hE
theorem HasPrc_any {q' : PrcT → Bool} (l : List PrcT) (hl : l.length ≤ 9223372036854775807) (hG : Ext G0 G) (hq' : ∀ a ∈ l, Prd Try.prog g fs cap (.agg a.f) G0 (q' a)) (k : ∀ G', Ext G G' → K (.bool (l.any q')) G') :
  CallL Try.prog (.fn 20) [.lst (prcC l) l.length 6, .fn (.func g) fs cap] G K := by
 refine call_body r_slices_ContainsFunc_api_Proc_api_Proc k_slices_ContainsFunc_api_Proc_api_Proc (by simp) ?_
 simp [c_slices_ContainsFunc_api_Proc_api_Proc]
 refine IxPrc_any l hl hG hq' fun G' hE => ?_
 simp
 rw [ixZ_any]
 exact k G' hE
theorem IxTrm_any {q' : Tm → Bool} (l : List Tm) (hl : l.length ≤ 9223372036854775807) (hG : Ext G0 G) (hq' : ∀ a ∈ l, Prd Try.prog g fs cap (.agg [.str a.1, .i a.2]) G0 (q' a)) (k : ∀ G', Ext G G' → K (.i (ixZ q' l)) G') :
  CallL Try.prog (.fn 62) [.lst (tmC l) l.length 2, .fn (.func g) fs cap] G K := by
 refine call_body r_slices_IndexFunc_api_Term_api_Term k_slices_IndexFunc_api_Term_api_Term (by simp) ?_
 simp [c_slices_IndexFunc_api_Term_api_Term]
 refine loop_nx (fun ρ D G' N => ∃ i : Nat, D = [] ∧ N + i = l.length ∧ lk ρ 0 = .lst (tmC l) l.length 2 ∧ lk ρ 1 = .fn (.func g) fs cap ∧ lk ρ 7 = .i l.length ∧ lk ρ 8 = .i i ∧ Ext G G' ∧ ∀ j b, j < i → l[j]? = some b → q' b = false) (N := l.length)
  ⟨0, rfl, by omega, by simp, by simp, by simp, by simp, Ext.refl G, fun j b hj => by omega⟩ ?_
 rintro N ρ D G' ⟨i, rfl, hN, h0, h1, h7, h8, hE, hn⟩ Nx hNx
 by_cases gi : i < l.length
 ·obtain ⟨a, ha⟩ : ∃ a, l[i]? = some a := ⟨_, List.getElem?_eq_getElem gi⟩
  have q := tm_two l i a ha
  have hq : i * 2 + 2 ≤ (tmC l).length := by rw [tmC_length]; omega
  simp [h0, h1, h7, h8, gi, q, hq]
  refine hq' a (List.mem_iff_getElem?.2 ⟨i, ha⟩) G' (hG.trans hE) _ fun G2 hE2 => ?_
  cases hb : q' a with
  | true =>
   simp
   rw [← ixZ_at ha hb hn]
   exact k G2 (hE.trans hE2)
  | false =>
   simp [h8]
   refine ⟨by omega, hNx _ _ _ ⟨N - 1, by omega, i + 1, rfl, by omega, by simp [h0], by simp [h1], by simp [h7], by simp, hE.trans hE2, fun j b hj hjb => ?_⟩⟩
   by_cases e : j = i
   ·subst e; rw [ha] at hjb; cases hjb; exact hb
   ·exact hn j b (by omega) hjb
 ·simp [h0, h1, h7, h8, gi]
  rw [← ixZ_none (Nat.le_of_not_lt gi) hn]
  exact k G' hE
theorem HasTrm_any {q' : Tm → Bool} (l : List Tm) (hl : l.length ≤ 9223372036854775807) (hG : Ext G0 G) (hq' : ∀ a ∈ l, Prd Try.prog g fs cap (.agg [.str a.1, .i a.2]) G0 (q' a)) (k : ∀ G', Ext G G' → K (.bool (l.any q')) G') :
  CallL Try.prog (.fn 46) [.lst (tmC l) l.length 2, .fn (.func g) fs cap] G K := by
 refine call_body r_slices_ContainsFunc_api_Term_api_Term k_slices_ContainsFunc_api_Term_api_Term (by simp) ?_
 simp [c_slices_ContainsFunc_api_Term_api_Term]
 refine IxTrm_any l hl hG hq' fun G' hE => ?_
 simp
 rw [ixZ_any]
 exact k G' hE
theorem IxStr_any {q' : Str → Bool} (l : List Str) (hl : l.length ≤ 9223372036854775807) (hG : Ext G0 G) (hq' : ∀ a ∈ l, Prd Try.prog g fs cap (.str a) G0 (q' a)) (k : ∀ G', Ext G G' → K (.i (ixZ q' l)) G') :
  CallL Try.prog (.fn 48) [.lst (strC l) l.length 1, .fn (.func g) fs cap] G K := by
 refine call_body r_slices_IndexFunc_string_string k_slices_IndexFunc_string_string (by simp) ?_
 simp [c_slices_IndexFunc_string_string]
 refine loop_nx (fun ρ D G' N => ∃ i : Nat, D = [] ∧ N + i = l.length ∧ lk ρ 0 = .lst (strC l) l.length 1 ∧ lk ρ 1 = .fn (.func g) fs cap ∧ lk ρ 7 = .i l.length ∧ lk ρ 8 = .i i ∧ Ext G G' ∧ ∀ j b, j < i → l[j]? = some b → q' b = false) (N := l.length)
  ⟨0, rfl, by omega, by simp, by simp, by simp, by simp, Ext.refl G, fun j b hj => by omega⟩ ?_
 rintro N ρ D G' ⟨i, rfl, hN, h0, h1, h7, h8, hE, hn⟩ Nx hNx
 by_cases gi : i < l.length
 ·obtain ⟨a, ha⟩ : ∃ a, l[i]? = some a := ⟨_, List.getElem?_eq_getElem gi⟩
  have q := map_at (f := LV.str) ha
  have qs : (strC l)[i]? = some (.str a) := q
  have hq : i < (strC l).length := by simp [strC]; omega
  simp [h0, h1, h7, h8, gi, nthL_at qs, hq]
  refine hq' a (List.mem_iff_getElem?.2 ⟨i, ha⟩) G' (hG.trans hE) _ fun G2 hE2 => ?_
  cases hb : q' a with
  | true =>
   simp
   rw [← ixZ_at ha hb hn]
   exact k G2 (hE.trans hE2)
  | false =>
   simp [h8]
   refine ⟨by omega, hNx _ _ _ ⟨N - 1, by omega, i + 1, rfl, by omega, by simp [h0], by simp [h1], by simp [h7], by simp, hE.trans hE2, fun j b hj hjb => ?_⟩⟩
   by_cases e : j = i
   ·subst e; rw [ha] at hjb; cases hjb; exact hb
   ·exact hn j b (by omega) hjb
 ·simp [h0, h1, h7, h8, gi]
  rw [← ixZ_none (Nat.le_of_not_lt gi) hn]
  exact k G' hE
theorem HasStr_any {q' : Str → Bool} (l : List Str) (hl : l.length ≤ 9223372036854775807) (hG : Ext G0 G) (hq' : ∀ a ∈ l, Prd Try.prog g fs cap (.str a) G0 (q' a)) (k : ∀ G', Ext G G' → K (.bool (l.any q')) G') :
  CallL Try.prog (.fn 34) [.lst (strC l) l.length 1, .fn (.func g) fs cap] G K := by
 refine call_body r_slices_ContainsFunc_string_string k_slices_ContainsFunc_string_string (by simp) ?_
 simp [c_slices_ContainsFunc_string_string]
 refine IxStr_any l hl hG hq' fun G' hE => ?_
 simp
 rw [ixZ_any]
 exact k G' hE
end funcs
end Go.Proofs.Ytcbbilifblbblaa
