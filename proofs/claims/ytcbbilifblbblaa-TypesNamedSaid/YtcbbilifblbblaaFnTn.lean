/- What procedures are called does not matter: the law walked. -/
import Derived.Test.YtcbbilifblbblaaSvG4
import Derived.Test.YtcbbilifblbblaaSvG3
import Derived.Test.YtcbbilifblbblaaFnTm
import Derived.Test.YtcbbilifblbblaaFnL18
namespace Go.Proofs.Ytcbbilifblbblaa
open Go.Sv
set_option linter.unusedSimpArgs false
set_option linter.unusedVariables false
set_option maxRecDepth 10000
def c_law18_TypesNamed : LC := (.seq (.ops [.z 4 (.move (.c (.bool false)))]) (.seq (.seq (.ops [.z 11 (.callV (.c (.fn (.func 5) [] [])) []),.z 12 (.un .not (.t 11))]) (.cond (.t 12) (.seq (.ops [.z 4 (.move (.c (.bool false)))]) .ret) .skip)) (.seq (.seq (.ops [.m 13 0,.z 14 (.callV (.c (.fn (.func 7) [] [])) [.t 13]),.z 15 (.un .not (.t 14))]) (.cond (.t 15) (.seq (.ops [.z 4 (.move (.c (.bool true)))]) .ret) .skip)) (.seq (.ops [.z 16 (.buildSl 6 0 [] []),.m 17 0,.z 18 (.appG 6 (.t 16) (.t 17)),.m 5 18]) (.seq (.seq (.ops [.z 6 (.move (.c (.i 0)))]) (.block 0 (.loop (.seq (.seq (.ops [.m 19 6,.m 20 5,.z 21 (.lenSl (.t 20)),.z 22 (.bin .lss false 3 (.t 19) (.t 21))]) (.cond (.t 22) .skip (.exit 0))) (.seq (.block 1 (.seq (.ops [.m 25 5,.m 26 6,.m 27 5,.m 28 6,.z 29 (.ixAddr 6 (.t 27) (.t 28)),.f 30 0 29,.l 31 30,.z 32 (.bin .add true 9 (.t 31) (.c (.str [95,112]))),.z 33 (.ixAddr 6 (.t 25) (.t 26)),.f 34 0 33,⟨none,none,.store 1 (.t 34) (.t 32)⟩]) (.ops [.m 35 5,.m 36 6,.m 37 5,.m 38 6,.z 39 (.ixAddr 6 (.t 37) (.t 38)),.f 40 5 39,.l 41 40,.z 42 (.callV (.c (.fn (.func 9) [] [])) [.t 41]),.z 43 (.ixAddr 6 (.t 35) (.t 36)),.f 44 5 43,⟨none,none,.store 1 (.t 44) (.t 42)⟩]))) (.ops [.m 23 6,.z 24 (.bin .add true 3 (.t 23) (.c (.i 1))),.m 6 24])))))) (.seq (.ops [.m 46 0,.z 47 (.callV (.c (.fn (.func 6) [] [])) [.t 46]),.m 45 47,.z 48 (.extract 0 (.t 45)),.z 49 (.extract 1 (.t 45)),.m 7 48,.m 8 49]) (.seq (.ops [.m 51 5,.z 52 (.callV (.c (.fn (.func 6) [] [])) [.t 51]),.m 50 52,.z 53 (.extract 0 (.t 50)),.z 54 (.extract 1 (.t 50)),.m 9 53,.m 10 54]) (.seq (.ops [.m 55 7,.m 56 9,.z 57 (.bin .eql false 3 (.t 55) (.t 56)),.m 58 57,⟨some 59,(some (58,true)),.move (.t 8)⟩,⟨some 60,(some (58,true)),.move (.t 10)⟩,⟨some 61,(some (58,true)),.bin .eql false 24 (.t 59) (.t 60)⟩,.z 62 (.pick (.t 58) (.t 61) (.c (.bool false))),.m 63 62,⟨some 64,(some (63,true)),.move (.t 0)⟩,⟨some 65,(some (63,true)),.move (.t 1)⟩,⟨some 66,(some (63,true)),.callV (.c (.fn (.func 11) [] [])) [.t 64,.t 65]⟩,⟨some 67,(some (63,true)),.move (.t 5)⟩,⟨some 68,(some (63,true)),.move (.t 1)⟩,⟨some 69,(some (63,true)),.callV (.c (.fn (.func 11) [] [])) [.t 67,.t 68]⟩,⟨some 70,(some (63,true)),.callV (.c (.fn (.func 10) [] [])) [.t 66,.t 69]⟩,.z 71 (.pick (.t 63) (.t 70) (.c (.bool false))),.m 72 71,⟨some 73,(some (72,true)),.move (.t 0)⟩,⟨some 74,(some (72,true)),.move (.t 1)⟩,⟨some 75,(some (72,true)),.callV (.c (.fn (.func 8) [] [])) [.t 73,.t 74]⟩,⟨some 76,(some (72,true)),.move (.t 5)⟩,⟨some 77,(some (72,true)),.move (.t 1)⟩,⟨some 78,(some (72,true)),.callV (.c (.fn (.func 8) [] [])) [.t 76,.t 77]⟩,⟨some 79,(some (72,true)),.bin .eql false 3 (.t 75) (.t 78)⟩,.z 80 (.pick (.t 72) (.t 79) (.c (.bool false))),.m 4 80]) .ret))))))))
theorem r_law18_TypesNamed : resFn Try.prog 4 = some ⟨81, c_law18_TypesNamed.r, [.tmp 4]⟩ := by kernel_rfl
theorem k_law18_TypesNamed : c_law18_TypesNamed.ok = true := by kernel_rfl
theorem law18_TypesNamed_run (l : List PrcT) (hl : okL PrcT.ok l) (i : Int) : CallL Try.prog (.fn 4) [.lst (prcC l) l.length 6, .i i] [] fun v _ => v = .bool true := by
 refine call_spl r_law18_TypesNamed k_law18_TypesNamed (by simp) ?_
 refine W_spl (Φ := fun ρ D G => ∃ st : Nat, D = [] ∧ lightE l = true ∧ lk ρ 0 = .lst (prcC l) l.length 6 ∧ lk ρ 1 = .i i ∧ lk ρ 5 = .dy 0 1 ∧ G = [.dyn (prcC (l.map renP)) l.length 6 1 st]) 4 _ rfl (fun Nx hNx => ?_) (fun ρ D G hΦ => ?_)
 ·simp [c_law18_TypesNamed, spl]
  refine CallL_F law18_lives_ok (by simp) ?_
  simp
  refine CallL_V (LightProcs_ok l hl) (by simp [dats, LV.dat, prcC_dats]) ?_
  cases hlt : lightE l with
  | false => simp
  | true =>
  have hle := lightE_le hlt
  have hsh : ∀ p ∈ l, p.name.length ≤ 20 ∧ shL p.body := ligF_sh l 0 (by omega) (by simp [lightE] at hlt; exact hlt.2)
  simp
  refine ⟨by omega, ?_⟩
  refine loop_nx (fun ρ D G N => ∃ (j st : Nat), D = [] ∧ N + j = l.length ∧ lk ρ 0 = .lst (prcC l) l.length 6 ∧ lk ρ 1 = .i i ∧ lk ρ 5 = .dy 0 1 ∧ lk ρ 6 = .i j ∧ G = [.dyn (prcC (halfM renP l j)) l.length 6 1 st]) (N := l.length) ⟨0, 1, rfl, by omega, by simp, by simp, by simp, by simp, by rw [halfM_zero]⟩ ?_
  rintro N ρ D G ⟨j, st, hD, hN, h0, h1, h5, h6, hG⟩ Nx2 hNx2
  subst hD hG
  by_cases gj : j < l.length
  case neg =>
   rw [halfM_all _ (by omega)]
   simp [h5, h6, gj]
   exact hNx _ _ _ ⟨st, rfl, hlt, by simp [h0], by simp [h1], by simp [h5], rfl⟩
  obtain ⟨x, hxb⟩ : ∃ x, l[j]? = some x := ⟨_, List.getElem?_eq_getElem gj⟩
  have hxm : x ∈ l := List.mem_iff_getElem?.2 ⟨j, hxb⟩
  obtain ⟨o1, o2, o3, o4, o5, o6⟩ := hl.2 x hxm
  obtain ⟨s1, s2⟩ := hsh x hxm
  have s3 := hle.2 x hxm
  have hbl := cntL_len x.body
  have hhl := halfM_len renP (l := l) (i := j) (by omega)
  have nxt : ∀ (ρ' : LEnv) (st' : Nat), lk ρ' 0 = .lst (prcC l) l.length 6 → lk ρ' 1 = .i i → lk ρ' 5 = .dy 0 1 → lk ρ' 6 = .i (j + 1) → Nx2 ρ' [] [.dyn (prcC ((halfM renP l j).set j (renP x))) l.length 6 1 st'] := fun ρ' st' a0 a1 a5 a6 =>
   hNx2 _ _ _ ⟨N - 1, by omega, j + 1, st', rfl, by omega, a0, a1, a5, by simpa using a6, by rw [halfM_set _ hxb]⟩
  have hat := halfM_at renP hxb
  generalize halfM renP l j = cur at *
  have gj2 : j < cur.length := by omega
  have hlen := prcC_len cur
  have put_ : ∀ (cur : List PrcT) (x y : PrcT) (k : Nat) (v : LV), cur[j]? = some x → k < 6 → y.f = x.f.set k v → layLV (prcC cur) (j * 6 + k) [v] = prcC (cur.set j y) := fun cur x y k v hat hk hy => by
   have hl : (prcC cur).length = cur.length * 6 := fm_len PrcT.f_len cur
   have hj2 := (List.getElem?_eq_some_iff.1 hat).1
   have : layLV (prcC cur) (j * 6 + k) [v] = (prcC cur).set (j * 6 + k) v := by
    unfold layLV
    rw [List.set_eq_take_append_cons_drop, if_pos (by omega)]
    simp
   rw [this]
   exact fm_put PrcT.f_len hat hk hy
  have q0 : (prcC cur)[j * 6]? = some (.str x.name) := by have := fm_at PrcT.f_len hat (j := 0) (by omega); simpa [prcC, PrcT.f] using this
  have hlt6 : j * 6 + 6 ≤ (prcC cur).length := by omega
  have p1 := put_ cur x { x with name := x.name ++ [95, 112] } 0 (.str (x.name ++ [95, 112])) hat (by omega) (by simp [PrcT.f])
  simp only [Nat.add_zero] at p1
  have at2 : (cur.set j { x with name := x.name ++ [95, 112] })[j]? = some { x with name := x.name ++ [95, 112] } := List.getElem?_set_self gj2
  have q5 : (prcC (cur.set j { x with name := x.name ++ [95, 112] }))[j * 6 + 5]? = some (.lst (stC x.body) x.body.length 9) := by have := fm_at PrcT.f_len at2 (j := 5) (by omega); simpa [prcC, PrcT.f] using this
  have p2 := put_ _ _ (renP x) 5 (.lst (stC (renL x.body)) x.body.length 9) at2 (by omega) (by simp [PrcT.f, renP, sfx, renL_map])
  rw [List.set_set] at p2
  have hlt7 : j * 6 + 6 ≤ (prcC (cur.set j { x with name := x.name ++ [95, 112] })).length := by rw [prcC_len, List.length_set]; omega
  simp [h5, h6, gj, nthL_at q0, hlt6, p1, nthL_at q5, hlt7]
  refine ⟨by omega, by omega, CallL_V (called_ok (cntL x.body) x.body rfl o6 s2 (by omega) (by omega)) (by simp [dats, LV.dat, stC_dats]) ?_⟩
  have hlt8 : j * 6 + 5 + 1 ≤ (prcC (cur.set j { x with name := x.name ++ [95, 112] })).length := by omega
  simp [h5, h6, gj, hlt7, hlt8, p2]
  exact ⟨by omega, nxt _ _ (by simp [h0]) (by simp [h1]) (by simp [h5]) (by simp)⟩
 obtain ⟨st, hD, hlt, h0, h1, h5, hG⟩ := hΦ
 subst hD hG
 refine W_fz (t := 5) (p := 0) rfl h5 ?_
 have hs := light_src hl hlt
 have hm := light_ren hl hlt
 have hle := lightE_le hlt
 have hml : (l.map renP).length = l.length := List.length_map _
 have hC := Check_ok _ hm
 have hV := Vars_ok _ hm i
 have hD := Depth_ok _ hm (by omega) i
 have hvl : (varsE l i).length ≤ 1000000000 := by
  unfold varsE
  split
  ·rename_i h
   have := (lookE_len (l.take i.toNat) (gp l i.toNat))
   have := hs.2 _ (List.mem_iff_getElem?.2 ⟨_, gp_at (mayE_in h)⟩)
   omega
  ·simp
 rw [hml] at hC hV hD
 rw [checkE_ren] at hC
 rw [varsE_ren] at hV
 rw [depE_ren] at hD
 refine wp_W _ ?_
 simp [c_law18_TypesNamed, spl, h0, h1]
 refine CallL_V (Check_ok l hs) (by simp [dats, LV.dat, prcC_dats]) ?_
 simp
 refine CallL_V hC (by simp [dats, LV.dat, prcC_dats]) ?_
 simp [h0, h1]
 refine CallL_V (Vars_ok l hs i) (by simp [dats, LV.dat, prcC_dats]) ?_
 simp [h0, h1]
 refine CallL_V hV (by simp [dats, LV.dat, prcC_dats]) ?_
 simp [h0, h1]
 refine CallL_V (Same_self (varsE l i) hvl) (by simp [dats, LV.dat, typC_dats]) ?_
 simp [h0, h1]
 refine CallL_V (Depth_ok l hs (by omega) i) (by simp [dats, LV.dat, prcC_dats]) ?_
 simp [h0, h1]
 refine CallL_V hD (by simp [dats, LV.dat, prcC_dats]) ?_
 simp
end Go.Proofs.Ytcbbilifblbblaa
