/- One more repeat around all: the law walked. -/
import Derived.Test.YtcbbilifblbblaaSvG4
import Derived.Test.YtcbbilifblbblaaSvG3
import Derived.Test.YtcbbilifblbblaaFnTs
namespace Go.Proofs.Ytcbbilifblbblaa
open Go.Sv
set_option linter.unusedSimpArgs false
set_option linter.unusedVariables false
set_option maxRecDepth 10000
def c_law18_TypesDeep : LC := (.seq (.ops [.z 2 (.move (.c (.bool false)))]) (.seq (.seq (.ops [.z 10 (.callV (.c (.fn (.func 5) [] [])) []),.z 11 (.un .not (.t 10))]) (.cond (.t 11) (.seq (.ops [.z 2 (.move (.c (.bool false)))]) .ret) .skip)) (.seq (.ops [.m 13 0,.z 14 (.callV (.c (.fn (.func 6) [] [])) [.t 13]),.m 12 14,.z 15 (.extract 0 (.t 12)),.z 16 (.extract 1 (.t 12)),.m 3 15,.m 4 16]) (.seq (.seq (.ops [.m 17 0,.z 18 (.callV (.c (.fn (.func 7) [] [])) [.t 17]),.z 19 (.un .not (.t 18)),.m 20 19,⟨some 21,(some (20,false)),.move (.t 0)⟩,⟨some 22,(some (20,false)),.lenSl (.t 21)⟩,⟨some 23,(some (20,false)),.bin .eql true 3 (.t 22) (.c (.i 0))⟩,.z 24 (.pick (.t 20) (.c (.bool true)) (.t 23)),.m 25 24,⟨some 26,(some (25,false)),.move (.t 4)⟩,⟨some 27,(some (25,false)),.bin .neq true 24 (.t 26) (.c (.i 0))⟩,.z 28 (.pick (.t 25) (.c (.bool true)) (.t 27))]) (.cond (.t 28) (.seq (.ops [.z 2 (.move (.c (.bool true)))]) .ret) .skip)) (.seq (.ops [.m 29 0,.z 30 (.lenSl (.t 29)),.z 31 (.bin .sub true 3 (.t 30) (.c (.i 1))),.m 5 31]) (.seq (.ops [.z 32 (.buildSl 6 0 [] []),.m 33 0,.z 34 (.appG 6 (.t 32) (.t 33)),.m 6 34]) (.seq (.ops [.m 35 6,.m 36 5,.z 37 (.build [(.i 0),.nilSl] [(0,1,.c (.i 2))]),.m 38 0,.m 39 5,.z 40 (.ixAddr 6 (.t 38) (.t 39)),.f 41 5 40,.l 42 41,.z 43 (.build [(.i 0),(.str []),(.i 0),.nilSl,(.str []),.nilSl,.nilSl,.nilSl,.nilSl] [(0,1,.c (.i 3)),(2,2,.t 37),(8,1,.t 42)]),.z 44 (.buildSl 9 1 [(.i 0),(.str []),(.i 0),.nilSl,(.str []),.nilSl,.nilSl,.nilSl,.nilSl] [(0,9,.t 43)]),.z 45 (.ixAddr 6 (.t 35) (.t 36)),.f 46 5 45,⟨none,none,.store 1 (.t 46) (.t 44)⟩]) (.seq (.ops [.m 48 6,.z 49 (.callV (.c (.fn (.func 6) [] [])) [.t 48]),.m 47 49,.z 50 (.extract 0 (.t 47)),.z 51 (.extract 1 (.t 47)),.m 7 50,.m 8 51]) (.seq (.ops [.m 52 0,.m 53 5,.z 54 (.callV (.c (.fn (.func 8) [] [])) [.t 52,.t 53]),.m 9 54]) (.seq (.ops [.m 55 8,.z 56 (.bin .eql true 24 (.t 55) (.c (.i 0))),.m 57 56,⟨some 58,(some (57,true)),.move (.t 6)⟩,⟨some 59,(some (57,true)),.move (.t 5)⟩,⟨some 60,(some (57,true)),.callV (.c (.fn (.func 8) [] [])) [.t 58,.t 59]⟩,⟨some 61,(some (57,true)),.move (.t 9)⟩,⟨some 62,(some (57,true)),.bin .add true 3 (.t 61) (.c (.i 1))⟩,⟨some 63,(some (57,true)),.bin .eql false 3 (.t 60) (.t 62)⟩,.z 64 (.pick (.t 57) (.t 63) (.c (.bool false))),.m 65 64,⟨some 66,(some (65,true)),.move (.t 9)⟩,⟨some 67,(some (65,true)),.bin .geq true 3 (.t 66) (.c (.i 0))⟩,.z 68 (.pick (.t 65) (.t 67) (.c (.bool false))),.m 69 68,⟨some 70,(some (69,true)),.move (.t 5)⟩,⟨some 71,(some (69,true)),.bin .eql true 3 (.t 70) (.c (.i 0))⟩,⟨some 72,(some (69,true)),.move (.t 71)⟩,⟨some 73,(some (72,false)),.move (.t 6)⟩,⟨some 74,(some (72,false)),.move (.t 5)⟩,⟨some 75,(some (72,false)),.bin .sub true 3 (.t 74) (.c (.i 1))⟩,⟨some 76,(some (72,false)),.callV (.c (.fn (.func 8) [] [])) [.t 73,.t 75]⟩,⟨some 77,(some (72,false)),.move (.t 0)⟩,⟨some 78,(some (72,false)),.move (.t 5)⟩,⟨some 79,(some (72,false)),.bin .sub true 3 (.t 78) (.c (.i 1))⟩,⟨some 80,(some (72,false)),.callV (.c (.fn (.func 8) [] [])) [.t 77,.t 79]⟩,⟨some 81,(some (72,false)),.bin .eql false 3 (.t 76) (.t 80)⟩,⟨some 82,(some (69,true)),.pick (.t 72) (.c (.bool true)) (.t 81)⟩,.z 83 (.pick (.t 69) (.t 82) (.c (.bool false))),.m 2 83]) .ret))))))))))
theorem r_law18_TypesDeep : resFn Try.prog 3 = some ⟨84, c_law18_TypesDeep.r, [.tmp 2]⟩ := by kernel_rfl
theorem k_law18_TypesDeep : c_law18_TypesDeep.ok = true := by kernel_rfl
theorem law18_TypesDeep_run (l : List PrcT) (hs : SrcOk l) : CallL Try.prog (.fn 3) [.lst (prcC l) l.length 6] [] fun v _ => v = .bool true := by
 refine call_spl r_law18_TypesDeep k_law18_TypesDeep (by simp) ?_
 have hll := hs.1.1
 refine W_spl (Φ := fun ρ D G => ∃ (st s2 : Nat) (a b : List LV), D = [] ∧ l ≠ [] ∧ lightE l = true ∧ (checkE l).2 = 0 ∧ lk ρ 0 = .lst (prcC l) l.length 6 ∧ lk ρ 5 = .i (l.length - 1 : Nat) ∧ lk ρ 6 = .dy 0 1 ∧ a.length = (l.length - 1) * 6 + 5 ∧ b = [] ∧ a ++ .lst (stC [wrapS (gp l (l.length - 1)).body]) 1 9 :: b = prcC (lastW l) ∧
  G = [.dyn (a ++ .dy 1 0 :: b) l.length 6 1 st, .dyn [.i 3, .str [], .i 2, .nilSl, .str [], .nilSl, .nilSl, .nilSl, .lst (stC (gp l (l.length - 1)).body) (gp l (l.length - 1)).body.length 9] 1 9 0 s2]) 6 _ rfl (fun Nx hNx => ?_) (fun ρ D G hΦ => ?_)
 ·simp [c_law18_TypesDeep, spl]
  refine CallL_F law18_lives_ok (by simp) ?_
  simp
  refine CallL_V (Check_ok l hs) (by simp [dats, LV.dat, prcC_dats]) ?_
  simp
  refine CallL_V (LightProcs_ok l hs.1) (by simp [dats, LV.dat, prcC_dats]) ?_
  cases hlt : lightE l with
  | false => simp
  | true =>
  have hle := lightE_le hlt
  by_cases h0 : l = []
  ·subst h0; simp
  by_cases hc : (checkE l).2 = 0
  case neg => simp [h0, hc]
  have hlen : l.length ≠ 0 := fun e => h0 (List.length_eq_zero_iff.1 e)
  obtain ⟨n, hn⟩ : ∃ n, l.length = n + 1 := ⟨l.length - 1, by omega⟩
  have q5 : (prcC l)[n * 6 + 5]? = some (.lst (stC (gp l n).body) (gp l n).body.length 9) := by have := fm_at PrcT.f_len (gp_at (l := l) (i := n) (by omega)) (j := 5) (by omega); simpa [prcC, PrcT.f] using this
  have hq : n * 6 + 6 ≤ (prcC l).length := by rw [prcC_len]; omega
  have e1 : ((l.length : Int) - 1) = (n : Nat) := by omega
  simp [h0, hc, e1, nthL_at q5, hq]
  refine ⟨by omega, by omega, by omega, hNx _ _ _ ⟨2, 0, (prcC l).take (n * 6 + 5), [], rfl, h0, hlt, hc, by simp, by simp; omega, by simp, by rw [List.length_take]; omega, rfl, ?_, ?_⟩⟩
  ·have hn1 : l.length - 1 = n := by omega
   rw [lastW, hn1]
   have := fm_put (f := PrcT.f) PrcT.f_len (gp_at (l := l) (i := n) (by omega)) (j := 5) (y := wrapP (gp l n)) (v := .lst (stC [wrapS (gp l n).body]) 1 9) (by omega) (by simp [PrcT.f, wrapP])
   rw [show (l.set n (wrapP (gp l n))).flatMap PrcT.f = prcC (l.set n (wrapP (gp l n))) from rfl] at this
   rw [← this, List.set_eq_take_append_cons_drop]
   have hfl : (l.flatMap PrcT.f).length = l.length * 6 := fm_len PrcT.f_len l
   rw [if_pos (by omega), List.drop_of_length_le (by omega)]
   rfl
  ·have hn1 : l.length - 1 = n := by omega
   rw [hn1]
   have : layLV (prcC l) (n * 6 + 5) [LV.dy 1 0] = (prcC l).take (n * 6 + 5) ++ [.dy 1 0] := by
    unfold layLV
    rw [List.drop_of_length_le (by rw [prcC_len]; simp; omega)]
    simp
   rw [this]
 obtain ⟨st, s2, a, b, hD, h0, hlt, hc, h0', h5, h6, ha, hb, hab, hG⟩ := hΦ
 subst hD hG hb
 have hlen : l.length ≠ 0 := fun e => h0 (List.length_eq_zero_iff.1 e)
 have hle := lightE_le hlt
 have hml := lastW_len (l := l)
 have hms := lastW_src h0 hs hle.2
 obtain ⟨p, hp⟩ : ∃ p, p = gp l (l.length - 1) := ⟨_, rfl⟩
 rw [← hp] at hab ⊢
 have hw : stC [wrapS p.body] = [.i 3, .str [], .i 2, .lst [] 0 2, .str [], .lst [] 0 2, .lst [] 0 1, .lst [] 0 2, .lst (stC p.body) p.body.length 9] := by
  simp [stC, wrapS, Stt.f, tmC, argC, strC, lenC]
 refine W_cells (p := 1) (l' := [.i 3, .str [], .i 2, .lst [] 0 2, .str [], .lst [] 0 2, .lst [] 0 1, .lst [] 0 2, .lst (stC p.body) p.body.length 9]) rfl (fun c r hr => ?_) ?_
 ·have nl : ∀ {x : AV} {e : Nat}, AR c .nilSl x → AR c (.lst [] 0 e) x := fun h => by cases h; exact .lstNil
  cases hr with
  | cons e1 hr => cases hr with
   | cons e2 hr => cases hr with
    | cons e3 hr => cases hr with
     | cons e4 hr => cases hr with
      | cons e5 hr => cases hr with
       | cons e6 hr => cases hr with
        | cons e7 hr => cases hr with
         | cons e8 hr => exact .cons e1 (.cons e2 (.cons e3 (.cons (nl e4) (.cons e5 (.cons (nl e6) (.cons (nl e7) (.cons (nl e8) hr)))))))
 rw [← hw]
 refine W_fzD (p := 1) (q := 0) rfl rfl (by omega) ?_
 simp only [List.set_cons_zero, List.set_cons_succ]
 rw [hab]
 refine W_fz (t := 6) (p := 0) rfl h6 ?_
 have hC := Check_ok _ hms
 have hD1 := Depth_ok _ hms (by omega) (l.length - 1 : Nat)
 have hD2 := Depth_ok _ hms (by omega) ((l.length - 1 : Nat) - 1)
 rw [hml] at hC hD1 hD2
 rw [lastW_check h0 hc] at hC
 rw [deep_more h0 hc] at hD1
 have hge := deep_ge h0 hc
 have hle2 : depE l (l.length - 1 : Nat) ≤ 1000 := deep_le hle.1 hle.2
 refine wp_W _ ?_
 simp [c_law18_TypesDeep, spl, h0', h5]
 refine CallL_V hC (by simp [dats, LV.dat, prcC_dats]) ?_
 simp [h0', h5]
 refine CallL_V (Depth_ok l hs (by omega) _) (by simp [dats, LV.dat, prcC_dats]) ?_
 simp [h0', h5]
 refine CallL_V hD1 (by simp [dats, LV.dat, prcC_dats]) ?_
 simp [h0', h5, hge]
 refine ⟨by omega, fun h1 => ⟨by omega, CallL_V hD2 (by simp [dats, LV.dat, prcC_dats]) ?_⟩⟩
 have hds := deep_same h0 hc (j := l.length - 1 - 1) (by omega)
 have hcast : ((l.length - 1 - 1 : Nat) : Int) = ((l.length - 1 : Nat) : Int) - 1 := by omega
 rw [hcast] at hds
 simp [h0', h5]
 refine ⟨by omega, CallL_V (Depth_ok l hs (by omega) _) (by simp [dats, LV.dat, prcC_dats]) ?_⟩
 simp [hds]
end Go.Proofs.Ytcbbilifblbblaa
