/- Statements with other names: walked. -/
import Derived.Test.YtcbbilifblbblaaSvG4
import Derived.Test.YtcbbilifblbblaaFnTl
namespace Go.Proofs.Ytcbbilifblbblaa
open Go.Sv
set_option linter.unusedSimpArgs false
set_option linter.unusedVariables false
set_option maxRecDepth 10000
def c_law18_called : LC := (.seq (.ops [.z 2 (.move (.c .nilSl))]) (.seq (.ops [.z 5 (.buildSl 9 0 [] []),.m 6 0,.z 7 (.appG 9 (.t 5) (.t 6)),.m 3 7]) (.seq (.seq (.ops [.z 4 (.move (.c (.i 0)))]) (.block 0 (.loop (.seq (.seq (.ops [.m 8 4,.m 9 3,.z 10 (.lenSl (.t 9)),.z 11 (.bin .lss false 3 (.t 8) (.t 10))]) (.cond (.t 11) .skip (.exit 0))) (.seq (.block 1 (.seq (.seq (.ops [.m 14 3,.m 15 4,.z 16 (.ixAddr 9 (.t 14) (.t 15)),.f 17 0 16,.l 18 17,.z 19 (.bin .eql true 3 (.t 18) (.c (.i 5)))]) (.cond (.t 19) (.ops [.m 20 3,.m 21 4,.m 22 3,.m 23 4,.z 24 (.ixAddr 9 (.t 22) (.t 23)),.f 25 1 24,.l 26 25,.z 27 (.bin .add true 9 (.t 26) (.c (.str [95,112]))),.z 28 (.ixAddr 9 (.t 20) (.t 21)),.f 29 1 28,⟨none,none,.store 1 (.t 29) (.t 27)⟩]) .skip)) (.seq (.ops [.m 30 3,.m 31 4,.z 32 (.ixAddr 9 (.t 30) (.t 31)),.f 33 0 32,.l 34 33,.z 35 (.bin .eql true 3 (.t 34) (.c (.i 3)))]) (.cond (.t 35) (.ops [.m 36 3,.m 37 4,.m 38 3,.m 39 4,.z 40 (.ixAddr 9 (.t 38) (.t 39)),.f 41 8 40,.l 42 41,.z 43 (.callV (.c (.fn (.func 9) [] [])) [.t 42]),.z 44 (.ixAddr 9 (.t 36) (.t 37)),.f 45 8 44,⟨none,none,.store 1 (.t 45) (.t 43)⟩]) .skip)))) (.ops [.m 12 4,.z 13 (.bin .add true 3 (.t 12) (.c (.i 1))),.m 4 13])))))) (.seq (.ops [.m 46 3,.m 2 46]) .ret))))
theorem r_law18_called : resFn Try.prog 9 = some ⟨47, c_law18_called.r, [.tmp 2]⟩ := by kernel_rfl
theorem k_law18_called : c_law18_called.ok = true := by kernel_rfl
theorem called_ok : ∀ (c : Nat) (l : List Stt), cntL l = c → okL Stt.ok l → shL l → l.length ≤ 1000000 → cntL l ≤ 1000000 → FnV Try.prog 9 [.lst (stC l) l.length 9] (.lst (stC (renL l)) l.length 9) := by
 intro c
 induction c using Nat.strongRecOn with
 | _ c ih =>
  intro l hc hok hsh hll hcl
  refine FnV.mk (by simp [LV.dat, stC_dats]) (call_body r_law18_called k_law18_called (by simp) ?_)
  have hrow : ∀ l, stC l = l.flatMap Stt.f := stC_eq
  simp [c_law18_called]
  refine ⟨by omega, ?_⟩
  refine loop_nx (fun ρ D G N => ∃ (i st : Nat), D = [] ∧ N + i = l.length ∧ lk ρ 3 = .dy 0 1 ∧ lk ρ 4 = .i i ∧ G = [.dyn (stC (halfM renS l i)) l.length 9 1 st]) (N := l.length) ⟨0, 1, rfl, by omega, by simp, by simp, by rw [halfM_zero]⟩ ?_
  rintro N ρ D G ⟨i, st, hD, hN, h3, h4, hG⟩ Nx hNx
  subst hD hG
  by_cases gi : i < l.length
  case neg =>
   rw [halfM_all _ (by omega), ← renL_map]
   simp [h3, h4, gi]
   exact stC_dats _
  obtain ⟨x, hxb⟩ : ∃ x, l[i]? = some x := ⟨_, List.getElem?_eq_getElem gi⟩
  have hxm : x ∈ l := List.mem_iff_getElem?.2 ⟨i, hxb⟩
  have hxc := cntS_le hxm
  have hxo := hok.2 x hxm
  have hxs := shL_mem hsh x hxm
  have hhl := halfM_len renS (l := l) (i := i) (by omega)
  have nxt : ∀ (ρ' : LEnv) (st' : Nat), lk ρ' 3 = .dy 0 1 → lk ρ' 4 = .i (i + 1) → Nx ρ' [] [.dyn (stC ((halfM renS l i).set i (renS x))) l.length 9 1 st'] := fun ρ' st' a3 a4 =>
   hNx _ _ _ ⟨N - 1, by omega, i + 1, st', rfl, by omega, a3, by simpa using a4, by rw [halfM_set _ hxb]⟩
  have hat := halfM_at renS hxb
  generalize halfM renS l i = cur at *
  have gi2 : i < cur.length := by omega
  have at_ : ∀ j, j < 9 → (stC cur)[i * 9 + j]? = x.f[j]? := fun j hj => by rw [hrow]; exact fm_at Stt.f_len hat hj
  have put_ : ∀ (y : Stt) (j : Nat) (v : LV), j < 9 → y.f = x.f.set j v → layLV (stC cur) (i * 9 + j) [v] = stC (cur.set i y) := fun y j v hj hy => by
   have hl : (stC cur).length = cur.length * 9 := by rw [hrow]; exact fm_len Stt.f_len cur
   have : layLV (stC cur) (i * 9 + j) [v] = (stC cur).set (i * 9 + j) v := by
    unfold layLV
    rw [List.set_eq_take_append_cons_drop, if_pos (by omega)]
    simp
   rw [this, hrow, hrow]
   exact fm_put Stt.f_len hat hj hy
  have hlen : (stC cur).length = cur.length * 9 := by rw [hrow]; exact fm_len Stt.f_len cur
  obtain ⟨kd, nm, len, op, xs, ns, ls, bb⟩ := x
  rw [Stt.ok] at hxo
  rw [shS] at hxs
  obtain ⟨o1, o2, o3, o4, o5, o6, o7, o8, o9⟩ := hxo
  have q0 : (stC cur)[i * 9]? = some (.i kd) := by have := at_ 0 (by omega); simpa [Stt.f] using this
  have q1 : (stC cur)[i * 9 + 1]? = some (.str nm) := by have := at_ 1 (by omega); simpa [Stt.f] using this
  have q8 : (stC cur)[i * 9 + 8]? = some (.lst (stC bb) bb.length 9) := by have := at_ 8 (by omega); simpa [Stt.f] using this
  have hlt : i * 9 + 9 ≤ (stC cur).length := by rw [hlen]; omega
  by_cases k5 : kd = 5
  ·subst k5
   have hr : renS (.mk 5 nm len op xs ns ls bb) = .mk 5 (nm ++ [95, 112]) len op xs ns ls bb := by rw [renS]; rfl
   rw [hr] at nxt
   have hp := put_ (.mk 5 (nm ++ [95, 112]) len op xs ns ls bb) 1 (.str (nm ++ [95, 112])) (by omega) (by simp [Stt.f])
   have p0 : (stC (cur.set i (.mk 5 (nm ++ [95, 112]) len op xs ns ls bb)))[i * 9]? = some (.i 5) := by
    have := fm_at Stt.f_len (show (cur.set i (.mk 5 (nm ++ [95, 112]) len op xs ns ls bb))[i]? = some _ from List.getElem?_set_self gi2) (j := 0) (by omega)
    rw [hrow]; simpa [Stt.f] using this
   have hlt2 : i * 9 + 9 ≤ (stC (cur.set i (.mk 5 (nm ++ [95, 112]) len op xs ns ls bb))).length := by rw [hrow, fm_len Stt.f_len, List.length_set]; omega
   have h51 : i * 9 + 1 + 1 ≤ (stC cur).length := by omega
   simp [h3, h4, gi, nthL_at q0, nthL_at q1, hlt, hp, nthL_at p0, hlt2, h51]
   exact ⟨by omega, by omega, nxt _ _ (by simp [h3]) (by simp)⟩
  by_cases k3 : kd = 3
  ·subst k3
   have hr : renS (.mk 3 nm len op xs ns ls bb) = .mk 3 nm len op xs ns ls (renL bb) := by rw [renS]; rfl
   rw [hr] at nxt
   have hp := put_ (.mk 3 nm len op xs ns ls (renL bb)) 8 (.lst (stC (renL bb)) bb.length 9) (by omega) (by simp [Stt.f, renL_map])
   have h81 : i * 9 + 8 + 1 ≤ (stC cur).length := by omega
   simp only [cntS] at hxc
   have hbl := cntL_len bb
   simp [h3, h4, gi, nthL_at q0, nthL_at q8, hlt]
   refine CallL_V (ih (cntL bb) (by omega) bb rfl ⟨o8, (stsOk_iff bb).1 o9⟩ hxs.2 (by omega) (by omega)) (by simp [dats, LV.dat, stC_dats]) ?_
   simp [h3, h4, gi, hlt, hp, h81]
   exact ⟨by omega, nxt _ _ (by simp [h3]) (by simp)⟩
  have hr : renS (.mk kd nm len op xs ns ls bb) = .mk kd nm len op xs ns ls bb := by rw [renS, if_neg k5, if_neg k3]
  rw [hr] at nxt
  have hcs : cur.set i (.mk kd nm len op xs ns ls bb) = cur := by
   apply List.ext_getElem?
   intro z
   by_cases e : z = i
   ·subst e; rw [List.getElem?_set_self gi2, hat]
   ·rw [List.getElem?_set_ne (by omega)]
  rw [hcs] at nxt
  simp [h3, h4, gi, nthL_at q0, hlt, k5, k3]
  exact ⟨by omega, nxt _ _ (by simp [h3]) (by simp)⟩
end Go.Proofs.Ytcbbilifblbblaa
